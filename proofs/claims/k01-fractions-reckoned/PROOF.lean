import PyProof.Rows.All
import HandS.HeadHook2
import HandS.HeadNt
import HandS.HeadHook4
import HandS.Lambda
import KE.KExcInit
import HandS.Exc
import HandS.Defaults
import HandS.Gcd
import PySem.Challenge.RW_creepclocks_k01_fractions_reckoned
import KE.KStateDown
import HandS.Head0
import HandS.Head1
import HandS.Head2
import HandS.Head3
import HandS.HeadEnd
import HandS.HeadWalk
import Wide.All
import OpenK.AllK
import Wide.FinOn
import HandS.ForMost
import HandS.ExcOwn
import HandS.WordsExc
import HandS.CallSlots
import HandS.IsInst
import HandS.Wide
import HandS.Walk
import HandS.TupAny
import HandS.Zip
import HandS.Rev
import HandS.Comp
import HandS.More
import HandS.FStr
import HandS.StrMore
import HandS.WideBits
import HandS.TupMul
import KE.KExcIs
import HandS.ExcInit
import HandS.MakeKwOnly
import HandS.Text
import HandS.HotCalls
import HandS.TryMany
namespace Sim
/-- the defs that make lambdas -/
def tabN : List PySem.Str := ["_law_deeds_so", "_law_ratio_so", "_law_power_so"]
end Sim

set_option Elab.async false
set_option linter.all false
set_option maxRecDepth 100000
set_option maxHeartbeats 4000000
namespace Sim
open PySem PySem.Spec PyProof.Rows L2
abbrev Frag := PySem.W.Frag
inductive Bs where
  | ve | ae | le | ie
deriving DecidableEq
def Bs.bm : Bs → List Value
  | .ve => [.type "ValueError", .type "Exception", .type "BaseException", .type "object"]
  | .ae => [.type "ArithmeticError", .type "Exception", .type "BaseException", .type "object"]
  | .le => [.type "LookupError", .type "Exception", .type "BaseException", .type "object"]
  | .ie => [.type "IndexError", .type "LookupError", .type "Exception", .type "BaseException", .type "object"]
def Bs.new : Bs → String
  | .ve => "ValueError.__new__"
  | .ae => "ArithmeticError.__new__"
  | .le => "LookupError.__new__"
  | .ie => "IndexError.__new__"
/-- an exception class at a, over the base b: its fields' names ns -/
def exB (K : Frag) (a : Addr) (b : Bs) (ns : List Str) : Bool :=
  PySem.W.excInitIn K a b.bm b.new && (PySem.W.excOver K a b.bm && (PySem.W.hasDictIn K a && (PySem.W.keepIn K (.ref a) && ((PySem.W.clsIn K a).isSome &&
  (decide (PySem.W.findIn K (.ref a) "__setattr__" = some (some (.builtin "object.__setattr__"))) &&
  (decide (PySem.W.findIn K (.ref a) "__getattribute__" = some (some (.builtin "BaseException.__getattribute__"))) &&
  (decide (PySem.W.findIn K (.ref a) "__getattr__" = some none) &&
  (decide (PySem.W.subIn K (.ref a) (.type "BaseException") = some true) &&
  (decide (PySem.W.findIn K (.ref a) "__class__" = some (some (.builtin "object.__class__"))) &&
  (decide (PySem.W.mroIn K a (.type "object") = some true) &&
  (decide (PySem.W.findIn K (.ref a) "__init__" = some (some (.ref (He.ma K a "__init__")))) &&
  (decide (PySem.W.typeIn K (.ref (He.ma K a "__init__")) = some (.type "function")) &&
  (decide (PySem.W.typeIn K (.ref a) = some (.type "type")) &&
  (ns.all fun f => decide (PySem.W.findIn K (.ref a) f = some none)))))))))))))))
/-- isinstance of these classes' instances: own classes, built-in ones -/
def incr : List Nat → Bool
  | a :: b :: r => decide (a < b) && incr (b :: r)
  | _ => true
def isTabB (K : Frag) (ancO : Str → List Str) (ancT : Str → List String) (leafs owns : List Str) : Bool :=
  (leafs.all fun C => decide ((PySem.W.clsIn K (He.ga K C)).map (·.mro) = some ((ancO C).map (fun A => Value.ref (He.ga K A)) ++ (ancT C).map Value.type))) &&
  ((owns.all fun T => (PySem.W.clsIn K (He.ga K T)).isSome && decide (PySem.W.typeIn K (.ref (He.ga K T)) = some (.type "type"))) && incr (owns.map (He.ga K)))
/-- a class of plain instances at a: its fields ns -/
def insB (K : Frag) (a : Addr) (ns : List Str) : Bool :=
  PySem.W.plainGet K a Str.empty && (PySem.W.hasDictIn K a && (PySem.W.plainOver K a && (decide (PySem.W.findIn K (.ref a) "__setattr__" = some (some (.builtin "object.__setattr__"))) &&
  (decide (PySem.W.findIn K (.ref a) "__class__" = some (some (.builtin "object.__class__"))) && (decide (PySem.W.mroIn K a (.type "object") = some true) &&
  (PySem.W.makesIn K a && (decide (PySem.W.findIn K (.ref a) "__init__" = some (some (.ref (He.ma K a "__init__")))) && (PySem.W.isFn K (.ref (He.ma K a "__init__")) && (PySem.W.keepIn K (.ref a) &&
  (decide (PySem.W.findIn K (.ref a) "__getattribute__" = some (some (.builtin "object.__getattribute__"))) &&
  (ns.all fun f => decide (PySem.W.findIn K (.ref a) f = some none))))))))))))
/-- a static method m of the class at a -/
def stmB (K : Frag) (a : Addr) (m : Str) : Bool :=
  He5.wrapB K a "staticmethod" "staticmethod.__get__" m && (PySem.W.readsIn K a (.type "type") && decide (PySem.W.specialIn K (.ref a) "__getattribute__" = some (some (.builtin "type.__getattribute__"))))
def tyL : List String := ["bool", "int", "str", "tuple", "list"]
/-- these classes are no built-in types -/
def notB (K : Frag) (cs : List Str) : Bool := cs.all fun C => tyL.all fun T => decide (PySem.W.kitOne K (.ref (He.ga K C)) (.type T) = some false)
def dvI : List Int → List He.Dv := List.map He.Dv.int
def gblB (K : Frag) (x : Str) (id : String) : Bool := decide (PySem.W.nsIn K mainGlobals x = some (some (.builtin id)))
/-! ### the objects that are looked at -/
def fnR (o : Obj) : List Addr := match o.data with
  | .func fd => refVs fd.code ++ (refVs fd.defaults ++ refVs fd.kwdefaults)
  | _ => []
where refVs : Value → List Addr
  | .ref a => [a]
  | _ => []
def fnR2 (g : Addr → Option Obj) (a : Addr) : List Addr := match g a with
  | some o => (match o.data with
    | .func _ => fnR o
    | .fields vs => vs.toList.flatMap fun v => (match v with
      | .ref b => b :: (match g b with
        | some bo => fnR bo
        | none => [])
      | _ => [])
    | _ => [])
  | none => []
def r1 (g : Addr → Option Obj) (a : Addr) : List Addr := match g a with
  | some o => (match o.data with
    | .cls cd => cd.ns :: (match g cd.ns with
      | some n => (match n.data with
        | .dict es _ => es.toList.flatMap fun e => (match e.val with
          | .ref f => f :: fnR2 g f
          | _ => [])
        | _ => [])
      | none => [])
    | _ => fnR o)
  | none => []
def asL (g : Addr → Option Obj) : List Addr := match g mainGlobals with
  | some o => (match o.data with
    | .dict es _ => mainGlobals :: PySem.cStatics :: es.toList.flatMap fun e => (match e.val with
      | .ref a => a :: r1 g a
      | _ => [])
    | _ => [])
  | none => []
/-! ### the Hook: defs, facts, Bools of our own, the tables of the defs that make lambdas -/
abbrev AlS : Type := He.AlD × Bool
def obsS (fa : List He.Fa) (fn : List He5.DefA) (xs : List (Frag → Bool)) (K : Frag) : AlS := (He5.obsA fa fn K, xs.all fun f => f K)
structure SaysS (fa : List He.Fa) (fn : List He5.DefA) (xs : List (Frag → Bool)) (tf : List He.Defn) (h : Heap) (K : Frag) : Prop where
  o : obsS fa fn xs K = (He5.valA fn, true)
  hd : ∀ p ∈ tf, PySem.W.codeHdIn K (He.cT K p).1 (He.cT K p).2 = true
  out : ∀ p ∈ tf, K.lookup (He.cT K p).2 = none
  empty : ∀ p ∈ tf, h.get? (He.cT K p).2 = some { cls := .none, data := .fields #[] }
def obsSG (fa : List He.Fa) (fn : List He5.DefA) (xs : List (Frag → Bool)) (tf : List He.Defn) (g : Addr → Option Obj) : AlS := (He5.obsA fa fn (He.frT g (asL g)), (xs.all fun f => f (He.frT g (asL g))) && He.tabsB g tf (He.frT g (asL g)))
theorem saysS_of {fa : List He.Fa} {fn : List He5.DefA} {xs : List (Frag → Bool)} {tf : List He.Defn} {h : Heap} (e : obsSG fa fn xs tf h.get? = (He5.valA fn, true)) : SaysS fa fn xs tf h (He.frT h.get? (asL h.get?)) := by
  have e1 : He5.obsA fa fn (He.frT h.get? (asL h.get?)) = He5.valA fn := congrArg (fun z : AlS => z.1) e
  have e2 : ((xs.all fun f => f (He.frT h.get? (asL h.get?))) && He.tabsB h.get? tf (He.frT h.get? (asL h.get?))) = true := congrArg (fun z : AlS => z.2) e
  obtain ⟨h1, h2⟩ := He.ba e2
  have key : ∀ p ∈ tf, PySem.W.codeHdIn (He.frT h.get? (asL h.get?)) (He.cT (He.frT h.get? (asL h.get?)) p).1 (He.cT (He.frT h.get? (asL h.get?)) p).2 = true ∧ ∃ o, h.get? (He.cT (He.frT h.get? (asL h.get?)) p).2 = some o ∧ He.emptyTab o = true := fun p hp => by
    obtain ⟨h3, h4⟩ := He.ba (List.all_eq_true.mp h2 p hp)
    refine ⟨h3, ?_⟩
    cases q : h.get? (He.cT (He.frT h.get? (asL h.get?)) p).2 with
    | none =>
      rw [q] at h4
      cases h4
    | some o =>
      rw [q] at h4
      exact ⟨o, rfl, h4⟩
  refine ⟨?_, fun p hp => (key p hp).1, fun p hp => ?_, fun p hp => ?_⟩
  · show (He5.obsA fa fn _, _) = _
    rw [e1, h1]
  · obtain ⟨_, o, q, z⟩ := key p hp
    exact He.frT_none q z
  · obtain ⟨_, o, q, z⟩ := key p hp
    rw [q, He.emptyTab_eq z]
def hookS (fa : List He.Fa) (fn : List He5.DefA) (xs : List (Frag → Bool)) (tf : List He.Defn) : PySem.W.Hook where
  α := AlS
  obs := fun s => obsSG fa fn xs tf s.heap.get?
  val := fun _ => (He5.valA fn, true)
  says := fun _ h => ∃ K : PySem.W.Frag, K.In h ∧ SaysS fa fn xs tf h K
  of := fun _ _ e => ⟨_, He.frT_in, saysS_of e⟩
  keeps := fun _ _ _ ⟨K, hK, c⟩ k => ⟨K, PySem.W.Frag.In.keeps hK k, ⟨c.o, c.hd, c.out, fun p hp => k _ _ (c.empty p hp)⟩⟩
theorem obsSG_eq {fa : List He.Fa} {fn : List He5.DefA} {xs : List (Frag → Bool)} {tf : List He.Defn} {g : Addr → Option Obj} {s : Shared} (h : ∀ a, g a = s.heap.get? a) : obsSG fa fn xs tf g = (hookS fa fn xs tf).obs s := by
  have e : g = s.heap.get? := funext h
  rw [e] <;> rfl
/-- the tables of the defs tabN, each with the name that its lambdas bear -/
def tabT (K : Frag) : List (Addr × Str) := tabN.map fun x => ((He.cT K (x, none)).2, ((x : Str) ++ (".<locals>." : Str)) ++ ("<lambda>" : Str))
/-- the tables of the defs that make lambdas differ -/
def tabInj (K : Frag) : Bool := tabN.all fun x => tabN.all fun y => decide (x = y) || !decide ((He.cT K (x, none)).2 = (He.cT K (y, none)).2)
def subB (K : Frag) (owns : List Str) : Bool := owns.all fun T => decide (PySem.W.subIn K (.ref (He.ga K T)) (.type "BaseException") = some true)
end Sim

set_option Elab.async false
set_option linter.all false
set_option maxRecDepth 100000
set_option maxHeartbeats 4000000

namespace K01
open PySem PySem.Spec PyProof.Rows L2 Sim
def top (i : Nat) : Stmt := PySem.Challenge.pw_creepclocks_k01_fractions_reckoned.main.body.getD i (.Pass ⟨0, 0, 0, 0⟩)
def inCls (s : Stmt) (j : Nat) : Stmt := match s with
  | .ClassDef _ _ _ body _ _ _ _ _ _ _ => body.getD j (.Pass ⟨0, 0, 0, 0⟩)
  | s => s
abbrev D_is_fraction : Nat := 0
abbrev D_ratio : Nat := 1
abbrev D_sum_of : Nat := 2
abbrev D_difference_of : Nat := 3
abbrev D_product_of : Nat := 4
abbrev D_quotient_of : Nat := 5
abbrev D__whole_power : Nat := 6
abbrev D_power_of : Nat := 7
abbrev D_is_below : Nat := 8
abbrev D_is_whole : Nat := 9
abbrev D_is_order : Nat := 10
abbrev D_first_no_fraction : Nat := 11
abbrev D_check_numbers : Nat := 12
abbrev D_least_place : Nat := 13
abbrev D_unit_line : Nat := 14
abbrev D__bend_of : Nat := 15
abbrev D__kind_of : Nat := 16
abbrev D_Row___init__ : Nat := 17
abbrev D_Row_constant : Nat := 18
abbrev D_Step___init__ : Nat := 19
abbrev D_Step_still : Nat := 20
abbrev D__law_bag : Nat := 21
abbrev D__law_draw : Nat := 22
abbrev D__law_of : Nat := 23
abbrev D__law_like : Nat := 24
abbrev D__law_low : Nat := 25
abbrev D__law_add : Nat := 26
abbrev D__law_mul : Nat := 27
abbrev D__law_neg : Nat := 28
abbrev D__law_number : Nat := 29
abbrev D__law_big : Nat := 30
abbrev D__law_wide : Nat := 31
abbrev D__law_is : Nat := 32
abbrev D__law_raised : Nat := 33
abbrev D__law_fault : Nat := 34
abbrev D__law_ask : Nat := 35
abbrev D__law_any : Nat := 36
abbrev D__law_deeds_so : Nat := 37
abbrev D__law_ratio_so : Nat := 38
abbrev D__law_power_so : Nat := 39
abbrev D_law : Nat := 40
abbrev DI_DividedByZero : Nat := 41
abbrev DI_InvalidPower : Nat := 42
def fn0 : List (He5.DefA) := [⟨fun K => (He.ga K "is_fraction"), "is_fraction", "is_fraction", defArgs (top 16), defBody (top 16), defScope (top 16), [], []⟩,
  ⟨fun K => (He.ga K "ratio"), "ratio", "ratio", defArgs (top 17), defBody (top 17), defScope (top 17), [], []⟩,
  ⟨fun K => (He.ga K "sum_of"), "sum_of", "sum_of", defArgs (top 18), defBody (top 18), defScope (top 18), [], []⟩,
  ⟨fun K => (He.ga K "difference_of"), "difference_of", "difference_of", defArgs (top 19), defBody (top 19), defScope (top 19), [], []⟩,
  ⟨fun K => (He.ga K "product_of"), "product_of", "product_of", defArgs (top 20), defBody (top 20), defScope (top 20), [], []⟩,
  ⟨fun K => (He.ga K "quotient_of"), "quotient_of", "quotient_of", defArgs (top 21), defBody (top 21), defScope (top 21), [], []⟩,
  ⟨fun K => (He.ga K "_whole_power"), "_whole_power", "_whole_power", defArgs (top 23), defBody (top 23), defScope (top 23), [], []⟩,
  ⟨fun K => (He.ga K "power_of"), "power_of", "power_of", defArgs (top 22), defBody (top 22), defScope (top 22), [], []⟩,
  ⟨fun K => (He.ga K "is_below"), "is_below", "is_below", defArgs (top 24), defBody (top 24), defScope (top 24), [], []⟩,
  ⟨fun K => (He.ga K "is_whole"), "is_whole", "is_whole", defArgs (top 29), defBody (top 29), defScope (top 29), [], []⟩,
  ⟨fun K => (He.ga K "is_order"), "is_order", "is_order", defArgs (top 30), defBody (top 30), defScope (top 30), [], []⟩,
  ⟨fun K => (He.ga K "first_no_fraction"), "first_no_fraction", "first_no_fraction", defArgs (top 31), defBody (top 31), defScope (top 31), [], []⟩]
def fn1 : List (He5.DefA) := [⟨fun K => (He.ga K "check_numbers"), "check_numbers", "check_numbers", defArgs (top 32), defBody (top 32), defScope (top 32), [], []⟩,
  ⟨fun K => (He.ga K "least_place"), "least_place", "least_place", defArgs (top 35), defBody (top 35), defScope (top 35), [], []⟩,
  ⟨fun K => (He.ga K "unit_line"), "unit_line", "unit_line", defArgs (top 36), defBody (top 36), defScope (top 36), [], []⟩,
  ⟨fun K => (He.ga K "_bend_of"), "_bend_of", "_bend_of", defArgs (top 56), defBody (top 56), defScope (top 56), [], []⟩,
  ⟨fun K => (He.ga K "_kind_of"), "_kind_of", "_kind_of", defArgs (top 57), defBody (top 57), defScope (top 57), [], []⟩,
  ⟨fun K => (He.ma K (He.ga K "Row") "__init__"), "__init__", "Row.__init__", defArgs (inCls (top 53) 0), defBody (inCls (top 53) 0), defScope (inCls (top 53) 0), [], []⟩,
  ⟨fun K => (He5.wf K (He.ga K "Row") "staticmethod" "constant"), "constant", "Row.constant", defArgs (inCls (top 53) 1), defBody (inCls (top 53) 1), defScope (inCls (top 53) 1), [], []⟩,
  ⟨fun K => (He.ma K (He.ga K "Step") "__init__"), "__init__", "Step.__init__", defArgs (inCls (top 55) 0), defBody (inCls (top 55) 0), defScope (inCls (top 55) 0), [], []⟩,
  ⟨fun K => (He5.wf K (He.ga K "Step") "staticmethod" "still"), "still", "Step.still", defArgs (inCls (top 55) 1), defBody (inCls (top 55) 1), defScope (inCls (top 55) 1), [], []⟩,
  ⟨fun K => (He.ga K "_law_bag"), "_law_bag", "_law_bag", defArgs (top 59), defBody (top 59), defScope (top 59), [], []⟩,
  ⟨fun K => (He.ga K "_law_draw"), "_law_draw", "_law_draw", defArgs (top 60), defBody (top 60), defScope (top 60), [], []⟩,
  ⟨fun K => (He.ga K "_law_of"), "_law_of", "_law_of", defArgs (top 61), defBody (top 61), defScope (top 61), [], []⟩]
def fn2 : List (He5.DefA) := [⟨fun K => (He.ga K "_law_like"), "_law_like", "_law_like", defArgs (top 62), defBody (top 62), defScope (top 62), [], []⟩,
  ⟨fun K => (He.ga K "_law_low"), "_law_low", "_law_low", defArgs (top 63), defBody (top 63), defScope (top 63), [], []⟩,
  ⟨fun K => (He.ga K "_law_add"), "_law_add", "_law_add", defArgs (top 64), defBody (top 64), defScope (top 64), [], []⟩,
  ⟨fun K => (He.ga K "_law_mul"), "_law_mul", "_law_mul", defArgs (top 65), defBody (top 65), defScope (top 65), [], []⟩,
  ⟨fun K => (He.ga K "_law_neg"), "_law_neg", "_law_neg", defArgs (top 66), defBody (top 66), defScope (top 66), [], []⟩,
  ⟨fun K => (He.ga K "_law_number"), "_law_number", "_law_number", defArgs (top 67), defBody (top 67), defScope (top 67), [], []⟩,
  ⟨fun K => (He.ga K "_law_big"), "_law_big", "_law_big", defArgs (top 68), defBody (top 68), defScope (top 68), [], []⟩,
  ⟨fun K => (He.ga K "_law_wide"), "_law_wide", "_law_wide", defArgs (top 69), defBody (top 69), defScope (top 69), [], []⟩,
  ⟨fun K => (He.ga K "_law_is"), "_law_is", "_law_is", defArgs (top 70), defBody (top 70), defScope (top 70), [], []⟩,
  ⟨fun K => (He.ga K "_law_raised"), "_law_raised", "_law_raised", defArgs (top 71), defBody (top 71), defScope (top 71), [], []⟩,
  ⟨fun K => (He.ga K "_law_fault"), "_law_fault", "_law_fault", defArgs (top 72), defBody (top 72), defScope (top 72), [], []⟩,
  ⟨fun K => (He.ga K "_law_ask"), "_law_ask", "_law_ask", defArgs (top 73), defBody (top 73), defScope (top 73), [], []⟩]
def fn3 : List (He5.DefA) := [⟨fun K => (He.ga K "_law_any"), "_law_any", "_law_any", defArgs (top 74), defBody (top 74), defScope (top 74), [], []⟩,
  ⟨fun K => (He.ga K "_law_deeds_so"), "_law_deeds_so", "_law_deeds_so", defArgs (top 75), defBody (top 75), defScope (top 75), [], []⟩,
  ⟨fun K => (He.ga K "_law_ratio_so"), "_law_ratio_so", "_law_ratio_so", defArgs (top 76), defBody (top 76), defScope (top 76), [], []⟩,
  ⟨fun K => (He.ga K "_law_power_so"), "_law_power_so", "_law_power_so", defArgs (top 77), defBody (top 77), defScope (top 77), [], []⟩,
  ⟨fun K => (He.ga K "law"), "law", "law", defArgs (top 78), defBody (top 78), defScope (top 78), [], []⟩,
  ⟨fun K => (He.ma K (He.ga K "DividedByZero") "__init__"), "__init__", "DividedByZero.__init__", defArgs (inCls (top 14) 0), defBody (inCls (top 14) 0), defScope (inCls (top 14) 0), [], []⟩,
  ⟨fun K => (He.ma K (He.ga K "InvalidPower") "__init__"), "__init__", "InvalidPower.__init__", defArgs (inCls (top 11) 0), defBody (inCls (top 11) 0), defScope (inCls (top 11) 0), [], []⟩]
def fn : List (He5.DefA) := fn0 ++ fn1 ++ fn2 ++ fn3
def gnames0 : List (Str) := ["is_fraction",
  "ratio",
  "sum_of",
  "difference_of",
  "product_of",
  "quotient_of",
  "_whole_power",
  "power_of",
  "is_below",
  "is_whole",
  "is_order",
  "first_no_fraction",
  "check_numbers",
  "least_place",
  "unit_line",
  "_bend_of",
  "_kind_of",
  "_law_bag",
  "_law_draw",
  "_law_of",
  "_law_like",
  "_law_low",
  "_law_add",
  "_law_mul",
  "_law_neg",
  "_law_number",
  "_law_big",
  "_law_wide",
  "_law_is",
  "_law_raised"]
def gnames1 : List (Str) := ["_law_fault",
  "_law_ask",
  "_law_any",
  "_law_deeds_so",
  "_law_ratio_so",
  "_law_power_so",
  "law",
  "Row",
  "Step",
  "ONE",
  "ZERO",
  "CreepError",
  "DividedByZero",
  "InvalidPower",
  "NoAnswer"]
def gnames : List (Str) := gnames0 ++ gnames1
def fnames0 : List (Str) := ["abs",
  "all",
  "bool",
  "enumerate",
  "int",
  "isinstance",
  "len",
  "list",
  "range",
  "str",
  "tuple",
  "zip"]
def fnames : List (Str) := fnames0
def fa : List He.Fa := gnames.map .glo ++ fnames.map .free
def tf : List He.Defn := tabN.map fun x => (x, none)
def clsL0 : List (Str) := ["Row",
  "Step"]
def clsL : List (Str) := clsL0
def insL0 : List (Str × List Str) := [("Row", ["_numbers", "order", "height"]),
  ("Step", ["_numbers", "order", "lead", "height", "kind", "flat", "strength"])]
def insL : List (Str × List Str) := insL0
def stmL0 : List (Str × Str) := [("Row", "constant"),
  ("Step", "still")]
def stmL : List (Str × Str) := stmL0
def tupL0 : List (Str × List Int) := [("ONE", [1, 1]),
  ("ZERO", [0, 1])]
def tupL : List (Str × List Int) := tupL0
def gblL0 : List (Str × String) := [("gcd", "math.gcd")]
def gblL : List (Str × String) := gblL0
def leafs0 : List (Str) := ["DividedByZero",
  "InvalidPower"]
def leafs : List (Str) := leafs0
def owns0 : List (Str) := ["CreepError",
  "NoAnswer",
  "InvalidPower",
  "DividedByZero"]
def owns : List (Str) := owns0
def ancL0 : List (Str × List Str × List String) := [("DividedByZero", ["DividedByZero", "NoAnswer"], ["ArithmeticError", "Exception", "BaseException", "object"]),
  ("InvalidPower", ["InvalidPower", "CreepError"], ["ValueError", "Exception", "BaseException", "object"])]
def ancL : List (Str × List Str × List String) := ancL0
def ancO (C : Str) : List Str := match ancL.lookup C with
  | some p => p.1
  | none => []
def ancT (C : Str) : List String := match ancL.lookup C with
  | some p => p.2
  | none => []
def exL0 : List (Str × Bs × List Str) := [("DividedByZero", Bs.ae, ["code"]),
  ("InvalidPower", Bs.ve, ["code", "value"])]
def exL : List (Str × Bs × List Str) := exL0
def xs : List (Frag → Bool) := [fun K => insL.all fun e => insB K (He.ga K e.1) e.2, fun K => stmL.all fun e => stmB K (He.ga K e.1) e.2, fun K => notB K clsL, fun K => gblL.all fun e => gblB K e.1 e.2, fun K => tupL.all fun e => He.tupB K e.1 (dvI e.2),
  fun K => isTabB K ancO ancT leafs owns, fun K => exL.all fun e => exB K (He.ga K e.1) e.2.1 e.2.2, fun K => subB K owns, tabInj]
end K01

set_option Elab.async false
set_option linter.all false
set_option maxRecDepth 100000
set_option maxHeartbeats 4000000
namespace K01
open PySem PySem.Spec PyProof.Rows L2 Sim
abbrev R : PySem.W.OpenRow := PySem.W.OpenLaw.row PySem.Challenge.rw_creepclocks_k01_fractions_reckoned
abbrev qv : Program := PySem.W.view R.prog [0, 78]
def hnames0 : List (Str) := ["_wall",
  "CreepError",
  "NoAnswer",
  "InvalidNumber",
  "InvalidFraction",
  "InvalidOrder",
  "OrderTooLow",
  "UnlikeOrders",
  "InvalidPlace",
  "InvalidPower",
  "CantTurn",
  "NotSlow",
  "DividedByZero",
  "is_fraction",
  "ratio",
  "sum_of",
  "difference_of",
  "product_of",
  "quotient_of",
  "power_of",
  "_whole_power",
  "is_below",
  "fraction_text",
  "ZERO",
  "ONE",
  "is_whole",
  "is_order",
  "first_no_fraction",
  "check_numbers",
  "check_same_order"]
def hnames1 : List (Str) := ["check_cut",
  "least_place",
  "unit_line",
  "add_product",
  "added",
  "subtracted",
  "scaled_list",
  "multiplied",
  "substituted",
  "powers_of",
  "turned_back",
  "done_times",
  "binomials",
  "through",
  "series_line",
  "slow_power",
  "term_text",
  "series_text",
  "Row",
  "Step",
  "_bend_of",
  "_kind_of",
  "_law_bag",
  "_law_draw",
  "_law_of",
  "_law_like",
  "_law_low",
  "_law_add",
  "_law_mul",
  "_law_neg"]
def hnames2 : List (Str) := ["_law_number",
  "_law_big",
  "_law_wide",
  "_law_is",
  "_law_raised",
  "_law_fault",
  "_law_ask",
  "_law_any",
  "_law_deeds_so",
  "_law_ratio_so",
  "_law_power_so"]
def hnames : List (Str) := hnames0 ++ hnames1 ++ hnames2

abbrev hk : PySem.W.Hook := hookS fa fn xs tf
def ob (s : PySem.W.SharedT) : AlS := obsSG fa fn xs tf (HandSHeadRun.getT s)
theorem ob_eq (s : PySem.W.SharedT) : ob s = hk.obs s.abs := obsSG_eq (HandSHeadRun.getT_eq s)
def ob1 (s : PySem.W.SharedT) : He.AlD := He5.obsA fa fn (He.frT (HandSHeadRun.getT s) (asL (HandSHeadRun.getT s)))
def ob2 (s : PySem.W.SharedT) : Bool := (xs.all fun f => f (He.frT (HandSHeadRun.getT s) (asL (HandSHeadRun.getT s)))) && He.tabsB (HandSHeadRun.getT s) tf (He.frT (HandSHeadRun.getT s) (asL (HandSHeadRun.getT s)))
open PySem.W PySem.Calls HandSHeadRun
noncomputable abbrev T (w : World) := wholeF (fun p => stepQ (denQ tabQ) p w) fenceQ 10000 R.prog
theorem run0 (w : World) : (T w).map (fun x => (looksF R.prog x.1.heap x.2.abs, seenQ qv hnames (importedModules R.prog.main.body) (fun s => xlAt qv [] s && recOk R.toRowW.records s) x.2.abs)) = some (true, openGood qv hnames) := by
  kernel_rfl
theorem run1 (w : World) : (T w).map (fun x => ob1 x.2) = some (He5.valA fn) := by
  kernel_rfl
theorem run2 (w : World) : (T w).map (fun x => ob2 x.2) = some true := by
  kernel_rfl
end K01

set_option Elab.async false
set_option linter.all false
set_option maxRecDepth 100000
set_option maxHeartbeats 4000000
namespace K01
open PySem PySem.Spec PyProof.Rows L2 Sim
open PySem.W PySem.Calls HandSHeadRun
theorem joinI {w : World} {r : Option (Shared × SharedT)} (h0 : r.map (fun x => (looksF R.prog x.1.heap x.2.abs, seenQ qv hnames (importedModules R.prog.main.body) (fun s => xlAt qv [] s && recOk R.toRowW.records s) x.2.abs)) = some (true, openGood qv hnames))
    (h1 : r.map (fun x => ob1 x.2) = some (He5.valA fn)) (h2 : r.map (fun x => ob2 x.2) = some true) :
    r.map (fun x => (looksF R.prog x.1.heap x.2.abs, seenQ qv hnames (importedModules R.prog.main.body) (fun s => xlAt qv [] s && recOk R.toRowW.records s) x.2.abs, ob x.2)) = some (true, openGood qv hnames, hk.val w) := by
  cases r with
  | none => cases h0
  | some s =>
    simp only [Option.map_some, Option.some.injEq] at h0 h1 h2 ⊢
    have e : ob s.2 = hk.val w := by
      show (ob1 s.2, ob2 s.2) = (He5.valA fn, true)
      rw [h1, h2]
    have e2 : ∀ {a a' : Bool} {β : Type} {b b' : β} {γ : Type} {c c' : γ}, (a, b) = (a', b') → c = c' → (a, b, c) = (a', b', c') := by
      intro a a' β b b' γ c c' h h2
      cases h; cases h2; rfl
    exact congrArg some (e2 h0 e)
theorem run (w : World) : HandSHeadRun.RunEqI R qv hk ob 10000 hnames w := joinI (run0 w) (run1 w) (run2 w)
end K01

set_option Elab.async false
set_option linter.all false
set_option maxRecDepth 100000
set_option maxHeartbeats 4000000
/-! data, stores, what represents them -/
namespace Sim
open PySem PySem.Spec PyProof.Rows L2

/-- data by value; ref: an object of the store -/
inductive D where
  | non | bl (b : Bool) | int (i : Int) | str (s : Str) | ty (n : String)
  | tup (ds : List D) | lst (ds : List D) | ins (C : Str) (fs : List (Str × D))
  | ref (n : Nat)
  /-- the script -/
  | scr (ds : List D)
inductive O where
  | lst (ds : List D) | ins (C : Str) (fs : List (Str × D))
abbrev Sto := List (Option O)
structure Exn where
  cls : Str
  fs : List (Str × D)
inductive Res (α : Type) where
  | ok (a : α) (st : Sto) | exc (x : Exn) (st : Sto) | bad
@[simp] def Res.bind {α β : Type} (r : Res α) (f : α → Sto → Res β) : Res β := match r with
  | .ok a st => f a st
  | .exc x st => .exc x st
  | .bad => .bad
/-- where we stand: real addresses of the store's objects, the store, the abstract heap -/
structure Wd where
  mu : List Addr
  st : Sto
  H : Hp
  /-- lists that are just being made: nothing leads there -/
  op : List Addr
def Live (w : Wd) (a : Addr) : Prop := ∃ (n : Nat) (o : O), w.mu[n]? = some a ∧ w.st[n]? = some (some o)
/-- at a: an exception of the class at C, its dict at dx -/
def xo (a C dx : Addr) : HO := .ext fun h => ∃ (o : Obj) (vs : Array Value), h.get? a = some o ∧ o.cls = .ref C ∧ o.dict = some dx ∧ o.data = .fields vs
/-- what the written part says of a class of the program whose instances are plain objects, fs their fields -/
structure InsC (K : Frag) (C : Str) (fs : List (Str × D)) : Prop where
  cls : Cls K (He.ga K C)
  cn : PySem.W.findIn K (.ref (He.ga K C)) "__class__" = some (some (.builtin "object.__class__"))
  gt : PySem.W.specialIn K (.builtin "object.__class__") "__get__" = some (some (.builtin "getset_descriptor.__get__"))
  tk : PySem.W.takesIn K (.builtin "object.__class__") = some true
  ob : PySem.W.mroIn K (He.ga K C) (.type "object") = some true
  no : ∀ f, fs.lookup f ≠ none → PySem.W.findIn K (.ref (He.ga K C)) f = some none
/-- of an exception class -/
structure ExcC (K : Frag) (C : Str) (fs : List (Str × D)) : Prop where
  cl : (PySem.W.clsIn K (He.ga K C)).isSome = true
  ga : PySem.W.findIn K (.ref (He.ga K C)) "__getattribute__" = some (some (.builtin "BaseException.__getattribute__"))
  gg : PySem.W.findIn K (.ref (He.ga K C)) "__getattr__" = some none
  exC : PySem.W.subIn K (.ref (He.ga K C)) (.type "BaseException") = some true
  hdC : PySem.W.hasDictIn K (He.ga K C) = true
  cn : PySem.W.findIn K (.ref (He.ga K C)) "__class__" = some (some (.builtin "object.__class__"))
  gt : PySem.W.specialIn K (.builtin "object.__class__") "__get__" = some (some (.builtin "getset_descriptor.__get__"))
  tk : PySem.W.takesIn K (.builtin "object.__class__") = some true
  ob : PySem.W.mroIn K (He.ga K C) (.type "object") = some true
  no : ∀ f, fs.lookup f ≠ none → PySem.W.findIn K (.ref (He.ga K C)) f = some none

mutual
inductive Rep (K : Frag) (w : Wd) : V → D → Prop where
  | non : Rep K w .non .non
  | bl (b : Bool) : Rep K w (.bl b) (.bl b)
  | int (i : Int) : Rep K w (.int i) (.int i)
  | str (s : Str) : Rep K w (.str s) (.str s)
  | ty (n : String) : Rep K w (.ty n) (.ty n)
  | tup {a : Addr} {vs : List V} {ds : List D} (h : Rd w.H a (.tup vs)) (ho : a ∉ w.op) (hs : Reps K w vs ds) : Rep K w (.ref a) (.tup ds)
  | ktup {a : Addr} {vs : List V} {ds : List D} (h : ∀ H, SqT K H a vs) (hs : Reps K w vs ds) : Rep K w (.ref a) (.tup ds)
  | lst {a : Addr} {vs : List V} {ds : List D} (h : w.H a = some (.lst vs)) (hl : ¬ Live w a) (ho : a ∉ w.op) (hs : Reps K w vs ds) : Rep K w (.ref a) (.lst ds)
  | scr {a : Addr} {o : Obj} {vs : List V} {ds : List D} (h : w.H a = some (.frz o (.lst vs))) (hl : ¬ Live w a) (ho : a ∉ w.op) (hs : Reps K w vs ds) : Rep K w (.ref a) (.scr ds)
  | kscr {a : Addr} {vs : List V} {ds : List D} (h : ∀ H, SqL K H a vs) (ht : ∃ o, K.lookup a = some o ∧ o.cls = .type "list") (hs : Reps K w vs ds) : Rep K w (.ref a) (.scr ds)
  | ins {a dx : Addr} {C : Str} {fv : List (Str × V)} {fs : List (Str × D)} (h : w.H a = some (.ins (He.ga K C) dx fv)) (hl : ¬ Live w a) (ho : a ∉ w.op) (hs : RepF K w fv fs) (hc : InsC K C fs) : Rep K w (.ref a) (.ins C fs)
  | exo {a dx : Addr} {C : Str} {fv : List (Str × V)} {fs : List (Str × D)} (h : w.H a = some (xo a (He.ga K C) dx)) (h2 : w.H dx = some (.xd fv)) (hl : ¬ Live w a) (hl2 : ¬ Live w dx) (ho : a ∉ w.op) (ho2 : dx ∉ w.op) (hs : RepF K w fv fs) (hc : ExcC K C fs) : Rep K w (.ref a) (.ins C fs)
  | ref {a : Addr} {n : Nat} (h : w.mu[n]? = some a) : Rep K w (.ref a) (.ref n)
inductive Reps (K : Frag) (w : Wd) : List V → List D → Prop where
  | nil : Reps K w [] []
  | cons {v : V} {d : D} {vs : List V} {ds : List D} (h : Rep K w v d) (t : Reps K w vs ds) : Reps K w (v :: vs) (d :: ds)
inductive RepF (K : Frag) (w : Wd) : List (Str × V) → List (Str × D) → Prop where
  | nil : RepF K w [] []
  | cons {x : Str} {v : V} {d : D} {vs : List (Str × V)} {ds : List (Str × D)} (h : Rep K w v d) (t : RepF K w vs ds) : RepF K w ((x, v) :: vs) ((x, d) :: ds)
end
def RepO (K : Frag) (w : Wd) (a : Addr) : O → Prop
  | .lst ds => ∃ vs, w.H a = some (.lst vs) ∧ Reps K w vs ds
  | .ins C fs => ∃ dx fv, w.H a = some (.ins (He.ga K C) dx fv) ∧ RepF K w fv fs ∧ InsC K C fs
structure Ok (K : Frag) (w : Wd) : Prop where
  len : w.mu.length = w.st.length
  nd : w.mu.Nodup
  has : ∀ a ∈ w.mu, ∃ o, w.H a = some o
  opn : ∀ a ∈ w.op, a ∉ w.mu ∧ w.H a ≠ none
  obj : ∀ (n : Nat) (a : Addr) (o : O), w.mu[n]? = some a → w.st[n]? = some (some o) → RepO K w a o
  tab : LamX.Tabs (tabT K) w.H
structure Step (w w' : Wd) : Prop where
  ext : ∃ ν, w'.mu = w.mu ++ ν ∧ ∀ a ∈ ν, w.H a = none
  kp : ∀ a o, w.H a = some o → ¬ Live w a → (∀ ps, o ≠ .tbl ps) → w'.H a = some o
  dead : ∀ n : Nat, w.st[n]? = some none → w'.st[n]? = some none
  len : w.st.length ≤ w'.st.length
  has : ∀ a, w.H a ≠ none → w'.H a ≠ none
  op : ∃ l, w'.op = l ++ w.op ∧ ∀ a ∈ l, w.H a = none

theorem Step.keep {w w' : Wd} (s : Step w w') (a : Addr) (o : HO) (h : w.H a = some o) (hl : ¬ Live w a) (hn : ∀ ps, o ≠ .tbl ps := by intro ps z; first | exact nomatch z | cases z) : w'.H a = some o := s.kp a o h hl hn
theorem Step.refl (w : Wd) : Step w w := ⟨⟨[], by simp, by simp⟩, fun _ _ h _ _ => h, fun _ h => h, Nat.le_refl _, fun _ h => h, ⟨[], rfl, by simp⟩⟩
theorem not_none {α : Type} {o : Option α} {x : α} (h : o = some x) : o ≠ none := by rw [h]; simp
section
variable {K : Frag} {w w' w2 : Wd}
theorem Step.live (s : Step w w') (ok : Ok K w) {a : Addr} (h : w.H a ≠ none) (hl : ¬ Live w a) : ¬ Live w' a := by
  rintro ⟨n, o, h1, h2⟩
  obtain ⟨ν, e, hν⟩ := s.ext
  rw [e] at h1
  by_cases hn : n < w.mu.length
  · rw [List.getElem?_append_left hn] at h1
    have hn2 : n < w.st.length := by rw [← ok.len]; exact hn
    have e2 : w.st[n]? = some w.st[n] := List.getElem?_eq_getElem hn2
    cases q : w.st[n] with
    | none =>
      rw [q] at e2
      rw [s.dead n e2] at h2
      cases h2
    | some o' =>
      rw [q] at e2
      exact hl ⟨n, o', h1, e2⟩
  · rw [List.getElem?_append_right (by omega)] at h1
    exact h (hν a (List.mem_of_getElem? h1))
theorem Step.trans (s : Step w w') (t : Step w' w2) (ok : Ok K w) : Step w w2 := by
  obtain ⟨ν, e, hν⟩ := s.ext
  obtain ⟨ν', e', hν'⟩ := t.ext
  refine ⟨⟨ν ++ ν', by rw [e', e, List.append_assoc], fun a ha => ?_⟩, fun a o h hl hn => ?_, fun n h => t.dead n (s.dead n h), Nat.le_trans s.len t.len, fun a h => t.has a (s.has a h), ?_⟩
  · rcases List.mem_append.mp ha with h | h
    · exact hν a h
    · have q := hν' a h
      cases z : w.H a with
      | none => rfl
      | some o => exact absurd q (s.has a (not_none z))
  · exact t.kp a o (s.kp a o h hl hn) (s.live ok (not_none h) hl) hn
  · obtain ⟨l, e1, h1⟩ := s.op
    obtain ⟨l', e2, h2⟩ := t.op
    refine ⟨l' ++ l, by rw [e2, e1, List.append_assoc], fun a ha => ?_⟩
    rcases List.mem_append.mp ha with h | h
    · cases z : w.H a with
      | none => rfl
      | some o => exact absurd (h2 a h) (s.has a (not_none z))
    · exact h1 a h
theorem Step.notOp (s : Step w w') {a : Addr} (h : w.H a ≠ none) (ho : a ∉ w.op) : a ∉ w'.op := by
  obtain ⟨l, e, hl⟩ := s.op
  rw [e]
  intro z
  rcases List.mem_append.mp z with z | z
  · exact h (hl a z)
  · exact ho z
theorem Step.mu_get (s : Step w w') {n : Nat} {a : Addr} (h : w.mu[n]? = some a) : w'.mu[n]? = some a := by
  obtain ⟨ν, e, _⟩ := s.ext
  rw [e, List.getElem?_append_left]
  · exact h
  · exact (List.getElem?_eq_some_iff.mp h).1
theorem Ok.live_obj (ok : Ok K w) {a : Addr} (h : Live w a) : (∃ vs, w.H a = some (.lst vs)) ∨ ∃ C dx fv, w.H a = some (.ins C dx fv) := by
  obtain ⟨n, o, h1, h2⟩ := h
  have r := ok.obj n a o h1 h2
  cases o with
  | lst ds =>
    obtain ⟨vs, e, _⟩ := r
    exact .inl ⟨vs, e⟩
  | ins C fs =>
    obtain ⟨dx, fv, e, _⟩ := r
    exact .inr ⟨_, dx, fv, e⟩
theorem Step.rdT (s : Step w w') (ok : Ok K w) {a : Addr} {vs : List V} (h : Rd w.H a (.tup vs)) : Rd w'.H a (.tup vs) := by
  have nl : ∀ o, w.H a = some o → (∀ xs, o ≠ .lst xs) → (∀ C dx fv, o ≠ .ins C dx fv) → ¬ Live w a := by
    intro o e h1 h2 hl
    rcases ok.live_obj hl with ⟨xs, q⟩ | ⟨C, dx, fv, q⟩
    · rw [e] at q; cases q; exact h1 _ rfl
    · rw [e] at q; cases q; exact h2 _ _ _ rfl
  rcases h with h | ⟨o, h⟩
  · exact .inl (s.keep a _ h (nl _ h (fun _ z => nomatch z) fun _ _ _ z => nomatch z))
  · exact .inr ⟨o, s.keep a _ h (nl _ h (fun _ z => nomatch z) fun _ _ _ z => nomatch z)⟩
theorem Step.rdL (s : Step w w') {a : Addr} {vs : List V} (h : Rd w.H a (.lst vs)) (hl : ¬ Live w a) : Rd w'.H a (.lst vs) := by
  rcases h with h | ⟨o, h⟩
  · exact .inl (s.keep a _ h hl)
  · exact .inr ⟨o, s.keep a _ h hl⟩
theorem Rd.ne {H : Hp} {a : Addr} {u : HO} (h : Rd H a u) : H a ≠ none := by
  rcases h with h | ⟨o, h⟩
  · exact not_none h
  · exact not_none h
mutual
theorem Rep.step {v : V} {d : D} (s : Step w w') (ok : Ok K w) (r : Rep K w v d) : Rep K w' v d := by
  cases r with
  | non => exact .non
  | bl b => exact .bl b
  | int i => exact .int i
  | str z => exact .str z
  | ty n => exact .ty n
  | tup h ho hs => exact .tup (s.rdT ok h) (s.notOp (Rd.ne h) ho) (Reps.step s ok hs)
  | ktup h hs => exact .ktup h (Reps.step s ok hs)
  | lst h hl ho hs => exact .lst (s.keep _ _ h hl) (s.live ok (not_none h) hl) (s.notOp (not_none h) ho) (Reps.step s ok hs)
  | scr h hl ho hs => exact .scr (s.keep _ _ h hl) (s.live ok (not_none h) hl) (s.notOp (not_none h) ho) (Reps.step s ok hs)
  | kscr h ht hs => exact .kscr h ht (Reps.step s ok hs)
  | ins h hl ho hs hc => exact .ins (s.keep _ _ h hl) (s.live ok (not_none h) hl) (s.notOp (not_none h) ho) (RepF.step s ok hs) hc
  | exo h h2 hl hl2 ho ho2 hs hc => exact .exo (s.keep _ _ h hl) (s.keep _ _ h2 hl2) (s.live ok (not_none h) hl) (s.live ok (not_none h2) hl2) (s.notOp (not_none h) ho) (s.notOp (not_none h2) ho2) (RepF.step s ok hs) hc
  | ref h => exact .ref (s.mu_get h)
theorem Reps.step {vs : List V} {ds : List D} (s : Step w w') (ok : Ok K w) (r : Reps K w vs ds) : Reps K w' vs ds := by
  cases r with
  | nil => exact .nil
  | cons h t => exact .cons (Rep.step s ok h) (Reps.step s ok t)
theorem RepF.step {vs : List (Str × V)} {ds : List (Str × D)} (s : Step w w') (ok : Ok K w) (r : RepF K w vs ds) : RepF K w' vs ds := by
  cases r with
  | nil => exact .nil
  | cons h t => exact .cons (Rep.step s ok h) (RepF.step s ok t)
end
theorem Reps.length : ∀ {vs : List V} {ds : List D}, Reps K w vs ds → vs.length = ds.length
  | _, _, .nil => rfl
  | _, _, .cons _ t => congrArg Nat.succ t.length
theorem Reps.append : ∀ {vs us : List V} {ds es : List D}, Reps K w vs ds → Reps K w us es → Reps K w (vs ++ us) (ds ++ es)
  | _, _, _, _, .nil, s => s
  | _, _, _, _, .cons r t, s => .cons r (t.append s)
theorem Reps.get : ∀ {vs : List V} {ds : List D} {i : Nat} {d : D}, Reps K w vs ds → ds[i]? = some d → ∃ v, vs[i]? = some v ∧ Rep K w v d
  | _, _, 0, _, .cons r _, e => by simp at e; subst e; exact ⟨_, rfl, r⟩
  | _, _, i + 1, d, .cons _ t, e => by
    obtain ⟨v, h1, h2⟩ := Reps.get (i := i) (d := d) t (by simpa using e)
    exact ⟨v, by simpa using h1, h2⟩
theorem Reps.getV : ∀ {vs : List V} {ds : List D} {i : Nat} {v : V}, Reps K w vs ds → vs[i]? = some v → ∃ d, ds[i]? = some d ∧ Rep K w v d
  | _, _, 0, _, .cons r _, e => by simp at e; subst e; exact ⟨_, rfl, r⟩
  | _, _, i + 1, d, .cons _ t, e => by
    obtain ⟨v, h1, h2⟩ := Reps.getV (i := i) (v := d) t (by simpa using e)
    exact ⟨v, by simpa using h1, h2⟩
theorem Reps.set {v : V} {d : D} (r : Rep K w v d) : ∀ {vs : List V} {ds : List D} (i : Nat), Reps K w vs ds → Reps K w (vs.set i v) (ds.set i d)
  | _, _, _, .nil => .nil
  | _, _, 0, .cons _ t => .cons r t
  | _, _, i + 1, .cons q t => .cons q (Reps.set r i t)
theorem Reps.take : ∀ {vs : List V} {ds : List D} (n : Nat), Reps K w vs ds → Reps K w (vs.take n) (ds.take n)
  | _, _, 0, _ => by simp; exact .nil
  | _, _, _ + 1, .nil => .nil
  | _, _, n + 1, .cons r t => .cons r (Reps.take n t)
theorem Reps.drop : ∀ {vs : List V} {ds : List D} (n : Nat), Reps K w vs ds → Reps K w (vs.drop n) (ds.drop n)
  | _, _, 0, r => r
  | _, _, _ + 1, .nil => .nil
  | _, _, n + 1, .cons _ t => Reps.drop n t
theorem Reps.reverse : ∀ {vs : List V} {ds : List D}, Reps K w vs ds → Reps K w vs.reverse ds.reverse
  | _, _, .nil => .nil
  | _, _, .cons r t => by
    rw [List.reverse_cons, List.reverse_cons]
    exact t.reverse.append (.cons r .nil)
theorem Reps.zip : ∀ {vs us : List V} {ds es : List D} {i : Nat}, Reps K w vs ds → Reps K w us es → ∀ {v u : V}, vs[i]? = some v → us[i]? = some u → ∃ d e, ds[i]? = some d ∧ es[i]? = some e ∧ Rep K w v d ∧ Rep K w u e := by
  intro vs us ds es i r s v u h1 h2
  obtain ⟨d, e1, r1⟩ := r.getV h1
  obtain ⟨e, e2, r2⟩ := s.getV h2
  exact ⟨d, e, e1, e2, r1, r2⟩
theorem RepF.lookup {x : Str} : ∀ {vs : List (Str × V)} {ds : List (Str × D)} {d : D}, RepF K w vs ds → ds.lookup x = some d → ∃ v, vs.lookup x = some v ∧ Rep K w v d
  | _, _, _, .nil, e => by simp at e
  | (y, v) :: vs, _ :: ds, d, .cons r t, e => by
    rw [List.lookup_cons] at e ⊢
    cases q : x == y with
    | true =>
      rw [q] at e
      exact ⟨v, rfl, by cases e; exact r⟩
    | false =>
      rw [q] at e
      exact RepF.lookup t e
theorem RepF.lookup_none {x : Str} : ∀ {vs : List (Str × V)} {ds : List (Str × D)}, RepF K w vs ds → ds.lookup x = none → vs.lookup x = none
  | _, _, .nil, _ => rfl
  | (y, v) :: vs, _ :: ds, .cons r t, e => by
    rw [List.lookup_cons] at e ⊢
    cases q : x == y with
    | true => rw [q] at e; cases e
    | false =>
      rw [q] at e
      exact RepF.lookup_none t e
theorem RepF.length : ∀ {vs : List (Str × V)} {ds : List (Str × D)}, RepF K w vs ds → vs.length = ds.length
  | _, _, .nil => rfl
  | _, _, .cons _ t => congrArg Nat.succ t.length
end
mutual
def D.und (n : Nat) : D → Bool
  | .ref m => decide (m < n)
  | .tup ds => D.unds n ds
  | .lst ds => D.unds n ds
  | .scr ds => D.unds n ds
  | .ins _ fs => D.undF n fs
  | _ => true
def D.unds (n : Nat) : List D → Bool
  | [] => true
  | d :: ds => D.und n d && D.unds n ds
def D.undF (n : Nat) : List (Str × D) → Bool
  | [] => true
  | (_, d) :: ds => D.und n d && D.undF n ds
end
def O.und (n : Nat) : O → Bool
  | .lst ds => D.unds n ds
  | .ins _ fs => D.undF n fs
def stoBelow (n : Nat) (st : Sto) : Bool := st.all fun o => match o with
  | some o => O.und n o
  | none => true
theorem tabs_put {T : List (Addr × Str)} {H : Hp} {p : Addr} {o : HO} (t : LamX.Tabs T H) (h : H p = none) : LamX.Tabs T (upd H p o) := t.ext fun b u e => by
  rw [upd_ne (fun z => by rw [z, h] at e; cases e)]
  exact e
theorem tabs_mv {T : List (Addr × Str)} {H H' : Hp} {a : Addr} {o0 : HO} (t : LamX.Tabs T H) (h : H a = some o0) (h1 : ∀ ps, o0 ≠ .tbl ps) (h2 : ∀ c q, o0 ≠ LamX.CodeO c q) (e : ∀ b, b ≠ a → H' b = H b) : LamX.Tabs T H' := fun p hp => by
  obtain ⟨ps, e1, e2, e3⟩ := t p hp
  have n1 : p.1 ≠ a := fun z => by
    rw [z, h] at e1
    exact h1 _ (Option.some.inj e1)
  refine ⟨ps, by rw [e _ n1]; exact e1, e2, fun pos cv hc => ?_⟩
  obtain ⟨c, e4, e5⟩ := e3 pos cv hc
  refine ⟨c, e4, ?_⟩
  rw [e c fun z => by
    rw [z, h] at e5
    exact h2 _ _ (Option.some.inj e5)]
  exact e5
theorem tabs_wr {T : List (Addr × Str)} {H : Hp} {a : Addr} {o0 o : HO} (t : LamX.Tabs T H) (h : H a = some o0) (h1 : ∀ ps, o0 ≠ .tbl ps) (h2 : ∀ c q, o0 ≠ LamX.CodeO c q) : LamX.Tabs T (upd H a o) := tabs_mv t h h1 h2 fun b hb => upd_ne hb
theorem lst_ne_code {vs : List V} (c : Addr) (q : Str) : HO.lst vs ≠ LamX.CodeO c q := fun z => by unfold LamX.CodeO at z; cases z
theorem ins_ne_code {C dx : Addr} {fv : List (Str × V)} (c : Addr) (q : Str) : HO.ins C dx fv ≠ LamX.CodeO c q := fun z => by unfold LamX.CodeO at z; cases z
theorem Ok.live_tab {K : Frag} {w : Wd} (ok : Ok K w) {a : Addr} (h : Live w a) {o : HO} : LamX.Tabs (tabT K) (upd w.H a o) := by
  rcases ok.live_obj h with ⟨vs, e⟩ | ⟨C, dx, fv, e⟩
  · exact tabs_wr ok.tab e (fun _ z => nomatch z) lst_ne_code
  · exact tabs_wr ok.tab e (fun _ z => nomatch z) ins_ne_code
end Sim

set_option Elab.async false
set_option linter.all false
set_option maxRecDepth 100000
set_option maxHeartbeats 4000000
/-! judgements, straight code -/
namespace Sim
open PySem PySem.Spec PyProof.Rows L2

abbrev Sl := List (Option D)
abbrev Em := Sl → Sto → Res D
abbrev Tm := Sl → Sto → Res Bool
abbrev Am := Sl → Sto → Res (List D)
inductive RS where
  | nx (σ : Sl) (st : Sto) | rt (d : D) (st : Sto) | bk (σ : Sl) (st : Sto) | ct (σ : Sl) (st : Sto) | exc (x : Exn) (σ : Sl) (st : Sto) | bad
abbrev Sm := Sl → Sto → RS

structure Slots (K : Frag) (w : Wd) (σ : Sl) (σV : L2.St) : Prop where
  len : σ.length = σV.length
  get : ∀ (i : Nat) (d : D), σ[i]? = some (some d) → ∃ v, σV[i]? = some (some v) ∧ Rep K w v d
def RepX (K : Frag) (w : Wd) (x : Exn) (cls : Value) (dd : Option Addr) : Prop :=
  cls = .ref (He.ga K x.cls) ∧ ExcC K x.cls x.fs ∧ ∃ d fv, dd = some d ∧ w.H d = some (.xd fv) ∧ ¬ Live w d ∧ d ∉ w.op ∧ RepF K w fv x.fs

section
variable {α β : Type}
def PR (K : Frag) (R : Wd → β → α → Prop) (w : Wd) (r : Res α) (Q : β → Hp → Prop) (E : XK) : Prop := match r with
  | .ok d st => ∀ b mu H, Step w ⟨mu, st, H, w.op⟩ → Ok K ⟨mu, st, H, w.op⟩ → R ⟨mu, st, H, w.op⟩ b d → Q b H
  | .exc x st => ∀ c dd mu H, Step w ⟨mu, st, H, w.op⟩ → Ok K ⟨mu, st, H, w.op⟩ → RepX K ⟨mu, st, H, w.op⟩ x c dd → E c dd H
  | .bad => False
def PSr (K : Frag) (w : Wd) (r : RS) (D : Ends) (W : WX) : Prop := match r with
  | .nx σ st => ∀ σV mu H, Step w ⟨mu, st, H, w.op⟩ → Ok K ⟨mu, st, H, w.op⟩ → Slots K ⟨mu, st, H, w.op⟩ σ σV → D.nx σV H
  | .rt d st => ∀ v mu H, Step w ⟨mu, st, H, w.op⟩ → Ok K ⟨mu, st, H, w.op⟩ → Rep K ⟨mu, st, H, w.op⟩ v d → D.rt v H
  | .bk σ st => ∀ σV mu H, Step w ⟨mu, st, H, w.op⟩ → Ok K ⟨mu, st, H, w.op⟩ → Slots K ⟨mu, st, H, w.op⟩ σ σV → D.bk σV H
  | .ct σ st => ∀ σV mu H, Step w ⟨mu, st, H, w.op⟩ → Ok K ⟨mu, st, H, w.op⟩ → Slots K ⟨mu, st, H, w.op⟩ σ σV → D.ct σV H
  | .exc x σ st => ∀ c dd σV mu H, Step w ⟨mu, st, H, w.op⟩ → Ok K ⟨mu, st, H, w.op⟩ → Slots K ⟨mu, st, H, w.op⟩ σ σV → RepX K ⟨mu, st, H, w.op⟩ x c dd → W c dd σV H
  | .bad => False
variable {K : Frag} {w w' w2 : Wd}
theorem Slots.step {σ : Sl} {σV : L2.St} (s : Step w w') (ok : Ok K w) (h : Slots K w σ σV) : Slots K w' σ σV :=
  ⟨h.len, fun i d e => let ⟨v, e1, r⟩ := h.get i d e; ⟨v, e1, r.step s ok⟩⟩
theorem RepX.step {x : Exn} {c : Value} {dd : Option Addr} (s : Step w w') (ok : Ok K w) (h : RepX K w x c dd) : RepX K w' x c dd := by
  obtain ⟨h1, hc, d, fv, h2, h3, h4, h6, h5⟩ := h
  exact ⟨h1, hc, d, fv, h2, s.keep _ _ h3 h4, s.live ok (not_none h3) h4, s.notOp (not_none h3) h6, h5.step s ok⟩
theorem Slots.set {σ : Sl} {σV : L2.St} {v : V} {d : D} (h : Slots K w σ σV) (r : Rep K w v d) (i : Nat) : Slots K w (σ.set i (some d)) (σV.set i (some v)) := by
  refine ⟨by simpa using h.len, fun j e hj => ?_⟩
  by_cases q : j = i
  · subst q
    have hl : j < σ.length := by
      have := (List.getElem?_eq_some_iff.mp hj).1
      simpa using this
    rw [List.getElem?_set_self hl] at hj
    cases hj
    exact ⟨v, List.getElem?_set_self (by rw [← h.len]; exact hl), r⟩
  · rw [List.getElem?_set_ne (Ne.symm q)] at hj
    obtain ⟨u, e1, r1⟩ := h.get j e hj
    exact ⟨u, by rw [List.getElem?_set_ne (Ne.symm q)]; exact e1, r1⟩
theorem Slots.del {σ : Sl} {σV : L2.St} (h : Slots K w σ σV) (i : Nat) (o : Option V) : Slots K w (σ.set i none) (σV.set i o) := by
  refine ⟨by simpa using h.len, fun j e hj => ?_⟩
  by_cases q : j = i
  · subst q
    have hl : j < σ.length := by
      have := (List.getElem?_eq_some_iff.mp hj).1
      simpa using this
    rw [List.getElem?_set_self hl] at hj
    cases hj
  · rw [List.getElem?_set_ne (Ne.symm q)] at hj
    obtain ⟨u, e1, r1⟩ := h.get j e hj
    exact ⟨u, by rw [List.getElem?_set_ne (Ne.symm q)]; exact e1, r1⟩
variable {R R1 R2 : Wd → β → α → Prop}
theorem PR.step {r : Res α} {Q : β → Hp → Prop} {E : XK} (s : Step w w') (ok : Ok K w) (h : PR K R w r Q E) (hop : w'.op = w.op := by rfl) : PR K R w' r Q E := by
  obtain ⟨mu', st', H', op'⟩ := w'
  obtain rfl : op' = w.op := hop
  cases r with
  | ok d st => exact fun b mu H t o q => h b mu H (s.trans t ok) o q
  | exc x st => exact fun c dd mu H t o q => h c dd mu H (s.trans t ok) o q
  | bad => exact h
theorem PR.mono {r : Res α} {Q Q' : β → Hp → Prop} {E E' : XK} (h : PR K R w r Q E) (hq : ∀ b H, Q b H → Q' b H) (he : ∀ c d H, E c d H → E' c d H) : PR K R w r Q' E' := by
  cases r with
  | ok d st => exact fun b mu H t o q => hq _ _ (h b mu H t o q)
  | exc x st => exact fun c dd mu H t o q => he _ _ _ (h c dd mu H t o q)
  | bad => exact h
theorem PR.bind {γ δ : Type} {Ra : Wd → δ → γ → Prop} {r : Res γ} {f : γ → Sto → Res α} {Q : β → Hp → Prop} {E : XK} {Qa : δ → Hp → Prop} (ok : Ok K w) (h : PR K R w (r.bind f) Q E)
    (k : ∀ d st b mu H, r = .ok d st → Step w ⟨mu, st, H, w.op⟩ → Ok K ⟨mu, st, H, w.op⟩ → Ra ⟨mu, st, H, w.op⟩ b d → PR K R ⟨mu, st, H, w.op⟩ (f d st) Q E → Qa b H) : PR K Ra w r Qa E := by
  cases r with
  | ok d st => exact fun b mu H t o q => k d st b mu H rfl t o q (PR.step t ok h)
  | exc x st => exact h
  | bad => exact h
theorem PSr.step {r : RS} {D : Ends} {W : WX} (s : Step w w') (ok : Ok K w) (h : PSr K w r D W) (hop : w'.op = w.op := by rfl) : PSr K w' r D W := by
  obtain ⟨mu', st', H', op'⟩ := w'
  obtain rfl : op' = w.op := hop
  cases r with
  | nx σ st => exact fun b mu H t o q => h b mu H (s.trans t ok) o q
  | rt σ st => exact fun b mu H t o q => h b mu H (s.trans t ok) o q
  | bk σ st => exact fun b mu H t o q => h b mu H (s.trans t ok) o q
  | ct σ st => exact fun b mu H t o q => h b mu H (s.trans t ok) o q
  | exc x σ st => exact fun c dd b mu H t o q => h c dd b mu H (s.trans t ok) o q
  | bad => exact h
/-- pure results -/
theorem PR.ret {d : α} {b : β} {Q : β → Hp → Prop} {E : XK} (ok : Ok K w) (h : PR K R w (.ok d w.st) Q E) (r : R w b d) : Q b w.H := by
  obtain ⟨mu, st, H, op⟩ := w
  exact h b mu H (.refl _) ok r
end
abbrev xk (W : WX) (σV : L2.St) : XK := fun c dd H => W c dd σV H
def TEm (K : Frag) (m : Em) (W : WX) : TE := fun σV H Q => ∃ w σ, w.H = H ∧ Ok K w ∧ Slots K w σ σV ∧ PR K (Rep K) w (m σ w.st) Q (xk W σV)
def TTm (K : Frag) (m : Tm) (W : WX) : TT := fun σV H Q => ∃ w σ, w.H = H ∧ Ok K w ∧ Slots K w σ σV ∧ PR K (fun _ b c => b = c) w (m σ w.st) Q (xk W σV)
def TAm (K : Frag) (m : Am) (W : WX) : TA := fun σV H Q => ∃ w σ, w.H = H ∧ Ok K w ∧ Slots K w σ σV ∧ PR K (Reps K) w (m σ w.st) Q (xk W σV)
def TSm (K : Frag) (m : Sm) (W : WX) : TS := fun D σV H => ∃ w σ, w.H = H ∧ Ok K w ∧ Slots K w σ σV ∧ PSr K w (m σ w.st) D W
def SE (X : Cx) (W : WX) (e : Expr) (m : Em) : Prop := PE X e (TEm X.K m W)
def ST (X : Cx) (W : WX) (e : Expr) (m : Tm) : Prop := PT X e (TTm X.K m W)
def SW (X : Cx) (W : WX) (e : Expr) (m : Tm) : Prop := PW X e (TTm X.K m W)
def SA (X : Cx) (W : WX) (es : List Expr) (m : Am) : Prop := PA X es (TAm X.K m W)
def SS (X : Cx) (W : WX) (s : Stmt) (m : Sm) : Prop := PS X s (TSm X.K m W)
def SSs (X : Cx) (W : WX) (s : List Stmt) (m : Sm) : Prop := PSs X s (TSm X.K m W)
/-- weakening the reading -/
theorem pe_imp {X : Cx} {e : Expr} {t t' : TE} (h : PE X e t) (i : ∀ σ H Q, t' σ H Q → t σ H Q) : PE X e t' := ⟨fun pins s σ H Q I q => h.run pins s σ H Q I (i σ H Q q)⟩
theorem pt_imp {X : Cx} {e : Expr} {t t' : TT} (h : PT X e t) (i : ∀ σ H Q, t' σ H Q → t σ H Q) : PT X e t' := ⟨fun pins s σ H Q I q => h.run pins s σ H Q I (i σ H Q q)⟩
theorem pw_imp {X : Cx} {e : Expr} {t t' : TT} (h : PW X e t) (i : ∀ σ H Q, t' σ H Q → t σ H Q) : PW X e t' := ⟨fun wh pins s σ H Q I q => h.run wh pins s σ H Q I (i σ H Q q)⟩
theorem pa_imp {X : Cx} {e : List Expr} {t t' : TA} (h : PA X e t) (i : ∀ σ H Q, t' σ H Q → t σ H Q) : PA X e t' := ⟨fun pos pins s σ H Q I q => h.run pos pins s σ H Q I (i σ H Q q)⟩
theorem ps_imp {X : Cx} {e : Stmt} {t t' : TS} (h : PS X e t) (i : ∀ D σ H, t' D σ H → t D σ H) : PS X e t' := ⟨fun pins s σ H D I q => h.run pins s σ H D I (i D σ H q)⟩
theorem pss_imp {X : Cx} {e : List Stmt} {t t' : TS} (h : PSs X e t) (i : ∀ D σ H, t' D σ H → t D σ H) : PSs X e t' := ⟨fun pins s σ H D I q => h.run pins s σ H D I (i D σ H q)⟩

/-! ### expressions -/
section
variable {X : Cx} {W : WX} {K : Frag}
def eVar (i : Nat) : Em := fun σ st => match σ[i]? with
  | some (some d) => .ok d st
  | _ => .bad
theorem se_var {i : Nat} {e : Expr} (h : PE X e (tVar i)) : SE X W e (eVar i) := pe_imp h fun σV H Q q => by
  obtain ⟨w, σ, rfl, ok, sl, p⟩ := q
  unfold eVar at p
  cases e1 : σ[i]? with
  | none => rw [e1] at p; exact p.elim
  | some o =>
    cases o with
    | none => rw [e1] at p; exact p.elim
    | some d =>
      rw [e1] at p
      obtain ⟨v, e2, r⟩ := sl.get i d e1
      exact ⟨v, e2, PR.ret (R := Rep X.K) ok p r⟩
def eC (d : D) : Em := fun _ st => .ok d st
theorem se_C {e : Expr} {v : V} {d : D} (h : PE X e (tC v)) (r : ∀ w, Ok X.K w → Rep X.K w v d) : SE X W e (eC d) := pe_imp h fun σV H Q q => by
  obtain ⟨w, σ, rfl, ok, sl, p⟩ := q
  exact PR.ret (R := Rep X.K) ok p (r w ok)
theorem se_int {i : Int} {j pos} : SE X W (.Constant (.int i) j pos) (eC (.int i)) := se_C pe_int fun _ _ => .int i
theorem se_bl {b : Bool} {j pos} : SE X W (.Constant (.bool b) j pos) (eC (.bl b)) := se_C pe_bl fun _ _ => .bl b
theorem se_non {j pos} : SE X W (.Constant .none j pos) (eC .non) := se_C pe_non fun _ _ => .non
theorem se_str {x : Str} {j pos} : SE X W (.Constant (.str x) j pos) (eC (.str x)) := se_C pe_str fun _ _ => .str x
/-- the inner step of two places -/
def GOp (K : Frag) (r : R2) (g : D → D → Sto → Res D) : Prop := ∀ (w : Wd) (x y : V) (dx dy : D) (Q : VK) (E : XK), Ok K w → Rep K w x dx → Rep K w y dy → PR K (Rep K) w (g dx dy w.st) Q E → r x y w.H Q
def GUn (K : Frag) (r : V → Hp → VK → Prop) (g : D → Sto → Res D) : Prop := ∀ (w : Wd) (x : V) (dx : D) (Q : VK) (E : XK), Ok K w → Rep K w x dx → PR K (Rep K) w (g dx w.st) Q E → r x w.H Q
@[simp] def eBin (g : D → D → Sto → Res D) (a b : Em) : Em := fun σ st => (a σ st).bind fun x st1 => (b σ st1).bind fun y st2 => g x y st2
@[simp] def eUn (g : D → Sto → Res D) (a : Em) : Em := fun σ st => (a σ st).bind fun x st1 => g x st1
theorem t_bin {r : R2} {g : D → D → Sto → Res D} {a b : Em} (hg : GOp K r g) {σV : L2.St} {H : Hp} {Q : VK} (q : TEm K (eBin g a b) W σV H Q) : tOp r (TEm K a W) (TEm K b W) σV H Q := by
  obtain ⟨w, σ, rfl, ok, sl, p⟩ := q
  refine ⟨w, σ, rfl, ok, sl, PR.bind ok p fun d st x mu H1 e1 s1 ok1 r1 p1 => ?_⟩
  refine ⟨⟨mu, st, H1, w.op⟩, σ, rfl, ok1, sl.step s1 ok, PR.bind ok1 p1 fun d2 st2 y mu2 H2 e2 s2 ok2 r2 p2 => ?_⟩
  exact hg ⟨mu2, st2, H2, w.op⟩ x y d d2 Q _ ok2 (r1.step s2 ok1) r2 p2
theorem t_un {r : V → Hp → VK → Prop} {g : D → Sto → Res D} {a : Em} (hg : GUn K r g) {σV : L2.St} {H : Hp} {Q : VK} (q : TEm K (eUn g a) W σV H Q) : tUn r (TEm K a W) σV H Q := by
  obtain ⟨w, σ, rfl, ok, sl, p⟩ := q
  refine ⟨w, σ, rfl, ok, sl, PR.bind ok p fun d st x mu H1 e1 s1 ok1 r1 p1 => ?_⟩
  exact hg ⟨mu, st, H1, w.op⟩ x d Q _ ok1 r1 p1
theorem se_bin {op : Operator} {r : R2} {g : D → D → Sto → Res D} {a b : Expr} {ma mb : Em} {pos : Pos} (ho : OpR X (binaryOp op) r) (hg : GOp X.K r g) (ha : SE X W a ma) (hb : SE X W b mb) : SE X W (.BinOp a op b pos) (eBin g ma mb) :=
  pe_imp (pe_op ho ha hb) fun _ _ _ q => t_bin hg q
theorem se_un {op : UnaryOp} {r : V → Hp → VK → Prop} {g : D → Sto → Res D} {a : Expr} {ma : Em} {pos : Pos} (ho : UnR X (unaryOp op) r) (hg : GUn X.K r g) (ha : SE X W a ma) : SE X W (.UnaryOp op a pos) (eUn g ma) :=
  pe_imp (pe_un ho ha) fun _ _ _ q => t_un hg q
theorem se_cmp {op : CmpOp} {r : R2} {g : D → D → Sto → Res D} {a b : Expr} {ma mb : Em} {pos : Pos} (ho : OpR X (compareOp op) r) (hg : GOp X.K r g) (ha : SE X W a ma) (hb : SE X W b mb) (hm : behindInMarks op b = false) : SE X W (.Compare a [op] [b] pos) (eBin g ma mb) :=
  pe_imp (pe_cmpR ho ha hb hm) fun _ _ _ q => t_bin hg q
/-- a value that is a bool, as a test -/
@[simp] def tOf (m : Em) : Tm := fun σ st => (m σ st).bind fun d st => match d with
  | .bl b => .ok b st
  | _ => .bad
theorem t_test {m : Em} {σV : L2.St} {H : Hp} {Q : Bool → Hp → Prop} (q : TTm K (tOf m) W σV H Q) : tTest (TEm K m W) σV H Q := by
  obtain ⟨w, σ, rfl, ok, sl, p⟩ := q
  refine ⟨w, σ, rfl, ok, sl, PR.bind ok p fun d st x mu H1 e1 s1 ok1 r1 p1 => ?_⟩
  cases r1 with
  | bl b => exact ⟨b, rfl, PR.ret (R := fun _ b c => b = c) ok1 p1 rfl⟩
  | _ => exact p1.elim
theorem st_cmp {op : CmpOp} {r : R2} {g : D → D → Sto → Res D} {a b : Expr} {ma mb : Em} {pos : Pos} (ho : OpR X (compareOp op) r) (hg : GOp X.K r g) (ha : SE X W a ma) (hb : SE X W b mb) (hm : behindInMarks op b = false) : ST X W (.Compare a [op] [b] pos) (tOf (eBin g ma mb)) :=
  pt_imp (pt_cmpR ho ha hb hm) fun σV H Q q => by
    have q2 := t_test q
    obtain ⟨w, σ, h1, ok, sl, p⟩ := q2
    exact t_bin hg ⟨w, σ, h1, ok, sl, p⟩
end
end Sim

set_option Elab.async false
set_option linter.all false
set_option maxRecDepth 100000
set_option maxHeartbeats 4000000
/-! tests, displays, statements -/
namespace Sim
open PySem PySem.Spec PyProof.Rows L2

/-! ### worlds with one thing more -/
section
variable {K : Frag} {w : Wd}
def Wd.put (w : Wd) (p : Addr) (o : HO) : Wd := ⟨w.mu, w.st, upd w.H p o, w.op⟩
theorem Ok.notMem (ok : Ok K w) {p : Addr} (h : w.H p = none) : p ∉ w.mu := fun hm => by
  obtain ⟨o, e⟩ := ok.has p hm
  rw [h] at e; cases e
theorem put_step {p : Addr} {o : HO} (h : w.H p = none) : Step w (w.put p o) := by
  refine ⟨⟨[], by simp [Wd.put], by simp⟩, fun a u e _ _ => ?_, fun _ e => e, Nat.le_refl _, fun a e => ?_, ⟨[], rfl, by simp⟩⟩
  · show upd w.H p o a = some u
    rw [upd_ne (ne_of_none e h)]; exact e
  · show upd w.H p o a ≠ none
    by_cases q : a = p
    · rw [q, upd_same]; simp
    · rw [upd_ne q]; exact e
theorem put_live {p : Addr} {o : HO} (ok : Ok K w) (h : w.H p = none) : ¬ Live (w.put p o) p := by
  rintro ⟨n, u, h1, _⟩
  exact ok.notMem h (List.mem_of_getElem? h1)
theorem RepO.step {w' : Wd} {a : Addr} {o : O} (s : Step w w') (ok : Ok K w) (e : w'.H a = w.H a) (r : RepO K w a o) : RepO K w' a o := by
  cases o with
  | lst ds =>
    obtain ⟨vs, h, q⟩ := r
    exact ⟨vs, e.trans h, q.step s ok⟩
  | ins C fs =>
    obtain ⟨dx, fv, h, q, hc⟩ := r
    exact ⟨dx, fv, e.trans h, q.step s ok, hc⟩
theorem put_ok {p : Addr} {o : HO} (ok : Ok K w) (h : w.H p = none) : Ok K (w.put p o) := by
  refine ⟨ok.len, ok.nd, fun a ha => ?_, fun a ha => ⟨(ok.opn a ha).1, (put_step h).has a (ok.opn a ha).2⟩, fun n a u h1 h2 => ?_, tabs_put ok.tab h⟩
  · have q : a ≠ p := fun z => ok.notMem h (z ▸ ha)
    obtain ⟨u, e⟩ := ok.has a ha
    exact ⟨u, (upd_ne q).trans e⟩
  · have q : a ≠ p := fun z => ok.notMem h (z ▸ List.mem_of_getElem? h1)
    exact (ok.obj n a u h1 h2).step (put_step h) ok (upd_ne q)
/-- a new object of the store -/
def Wd.add (w : Wd) (p : Addr) (o : HO) (u : O) : Wd := ⟨w.mu ++ [p], w.st ++ [some u], upd w.H p o, w.op⟩
theorem add_step {p : Addr} {o : HO} {u : O} (h : w.H p = none) : Step w (w.add p o u) := by
  refine ⟨⟨[p], rfl, fun a ha => by rw [List.mem_singleton.mp ha]; exact h⟩, fun a u e _ _ => ?_, fun n e => ?_, by simp [Wd.add], fun a e => ?_, ⟨[], rfl, by simp⟩⟩
  · show upd w.H p o a = some u
    rw [upd_ne (ne_of_none e h)]; exact e
  · show (w.st ++ [some u])[n]? = some none
    rw [List.getElem?_append_left (List.getElem?_eq_some_iff.mp e).1]; exact e
  · show upd w.H p o a ≠ none
    by_cases q : a = p
    · rw [q, upd_same]; simp
    · rw [upd_ne q]; exact e
theorem add_ok {p : Addr} {o : HO} {u : O} (ok : Ok K w) (h : w.H p = none) (r : RepO K (w.add p o u) p u) : Ok K (w.add p o u) := by
  refine ⟨by simp [Wd.add, ok.len], ?_, fun a ha => ?_, fun a ha => ⟨fun z => ?_, (add_step (u := u) h).has a (ok.opn a ha).2⟩, fun n a x h1 h2 => ?_, tabs_put ok.tab h⟩
  · show (w.mu ++ [p]).Nodup
    rw [List.nodup_append]
    refine ⟨ok.nd, by simp, fun a ha b hb z => ?_⟩
    have e : b = p := by simpa using hb
    exact ok.notMem h (e ▸ z ▸ ha)
  · by_cases q : a = p
    · exact ⟨o, by rw [q]; exact upd_same⟩
    · have ha' : a ∈ w.mu := by
        rcases List.mem_append.mp (show a ∈ w.mu ++ [p] from ha) with z | z
        · exact z
        · exact absurd (by simpa using z) q
      obtain ⟨x, e⟩ := ok.has a ha'
      exact ⟨x, (upd_ne q).trans e⟩
  · have z : a ∈ w.mu ++ [p] := z
    rcases List.mem_append.mp z with z | z
    · exact (ok.opn a ha).1 z
    · rw [List.mem_singleton.mp z] at ha
      exact (ok.opn p ha).2 h
  · have h1 : (w.mu ++ [p])[n]? = some a := h1
    have h2 : (w.st ++ [some u])[n]? = some (some x) := h2
    by_cases hn : n < w.mu.length
    · rw [List.getElem?_append_left hn] at h1
      rw [List.getElem?_append_left (by rw [← ok.len]; exact hn)] at h2
      have q : a ≠ p := fun z => ok.notMem h (z ▸ List.mem_of_getElem? h1)
      exact (ok.obj n a x h1 h2).step (add_step h) ok (upd_ne q)
    · rw [List.getElem?_append_right (by omega)] at h1
      rw [List.getElem?_append_right (by rw [← ok.len]; omega)] at h2
      have e1 : a = p := by
        have := List.mem_of_getElem? h1
        simpa using this
      have e2 : x = u := by
        have := List.mem_of_getElem? h2
        simpa using this
      rw [e1, e2]; exact r
/-- an object of the store written -/
def Wd.wr (w : Wd) (n : Nat) (a : Addr) (o : HO) (u : O) : Wd := ⟨w.mu, w.st.set n (some u), upd w.H a o, w.op⟩
theorem wr_step {n : Nat} {a : Addr} {o : HO} {u u0 : O} (h1 : w.mu[n]? = some a) (h2 : w.st[n]? = some (some u0)) : Step w (w.wr n a o u) := by
  refine ⟨⟨[], by simp [Wd.wr], by simp⟩, fun b x e hl _ => ?_, fun m e => ?_, by simp [Wd.wr], fun b e => ?_, ⟨[], rfl, by simp⟩⟩
  · have q : b ≠ a := fun z => hl ⟨n, u0, z ▸ h1, h2⟩
    exact (upd_ne q).trans e
  · show (w.st.set n (some u))[m]? = some none
    have q : n ≠ m := fun z => by rw [z, e] at h2; cases h2
    rw [List.getElem?_set_ne q]; exact e
  · show upd w.H a o b ≠ none
    by_cases q : b = a
    · rw [q, upd_same]; simp
    · rw [upd_ne q]; exact e
theorem mu_inj (ok : Ok K w) {n m : Nat} {a : Addr} (h1 : w.mu[n]? = some a) (h2 : w.mu[m]? = some a) : n = m := by
  have e1 := List.getElem?_eq_some_iff.mp h1
  have e2 := List.getElem?_eq_some_iff.mp h2
  obtain ⟨l1, q1⟩ := e1
  obtain ⟨l2, q2⟩ := e2
  exact (List.getElem_inj ok.nd).mp (q1.trans q2.symm)
theorem wr_ok {n : Nat} {a : Addr} {o : HO} {u u0 : O} (ok : Ok K w) (h1 : w.mu[n]? = some a) (h2 : w.st[n]? = some (some u0)) (r : RepO K (w.wr n a o u) a u) : Ok K (w.wr n a o u) := by
  refine ⟨by simp [Wd.wr, ok.len], ok.nd, fun b hb => ?_, fun a ha => ⟨(ok.opn a ha).1, (wr_step h1 h2).has a (ok.opn a ha).2⟩, fun m b x e1 e2 => ?_, ok.live_tab ⟨n, _, h1, h2⟩⟩
  · by_cases q : b = a
    · exact ⟨o, by rw [q]; exact upd_same⟩
    · obtain ⟨y, e⟩ := ok.has b hb
      exact ⟨y, (upd_ne q).trans e⟩
  · have e1 : w.mu[m]? = some b := e1
    have e2 : (w.st.set n (some u))[m]? = some (some x) := e2
    by_cases q : m = n
    · subst q
      obtain rfl : a = b := Option.some.inj (h1.symm.trans e1)
      rw [List.getElem?_set_self (List.getElem?_eq_some_iff.mp h2).1] at e2
      obtain rfl : u = x := Option.some.inj (Option.some.inj e2)
      exact r
    · rw [List.getElem?_set_ne (Ne.symm q)] at e2
      have qb : b ≠ a := fun z => q (mu_inj ok e1 (z ▸ h1))
      exact (ok.obj m b x e1 e2).step (wr_step h1 h2) ok (upd_ne qb)
/-- an object of the store is no more changed -/
def Wd.kill (w : Wd) (n : Nat) : Wd := ⟨w.mu, w.st.set n none, w.H, w.op⟩
theorem kill_step {n : Nat} : Step w (w.kill n) := by
  refine ⟨⟨[], by simp [Wd.kill], by simp⟩, fun b x e hl _ => e, fun m e => ?_, by simp [Wd.kill], fun b e => e, ⟨[], rfl, by simp⟩⟩
  show (w.st.set n none)[m]? = some none
  by_cases q : n = m
  · subst q
    exact List.getElem?_set_self (List.getElem?_eq_some_iff.mp e).1
  · rw [List.getElem?_set_ne q]; exact e
theorem kill_ok {n : Nat} (ok : Ok K w) : Ok K (w.kill n) := by
  refine ⟨by simp [Wd.kill, ok.len], ok.nd, ok.has, ok.opn, fun m b x e1 e2 => ?_, ok.tab⟩
  have e2 : (w.st.set n none)[m]? = some (some x) := e2
  have q : n ≠ m := fun z => by
    subst z
    rw [List.getElem?_set_self (by have := (List.getElem?_eq_some_iff.mp e2).1; simpa using this)] at e2
    cases e2
  rw [List.getElem?_set_ne q] at e2
  exact (ok.obj m b x e1 e2).step kill_step ok rfl
theorem kill_live {n : Nat} {a : Addr} (ok : Ok K w) (h1 : w.mu[n]? = some a) : ¬ Live (w.kill n) a := by
  rintro ⟨m, o, e1, e2⟩
  have e1 : w.mu[m]? = some a := e1
  have q := mu_inj ok h1 e1
  subst q
  have e2 : (w.st.set n none)[n]? = some (some o) := e2
  rw [List.getElem?_set_self (by have := (List.getElem?_eq_some_iff.mp e2).1; simpa using this)] at e2
  cases e2
end

section
variable {X : Cx} {W : WX}
/-! ### tests -/
@[simp] def tAnd (a b : Tm) : Tm := fun σ st => (a σ st).bind fun c st1 => if c = true then b σ st1 else .ok false st1
@[simp] def tOr (a b : Tm) : Tm := fun σ st => (a σ st).bind fun c st1 => if c = true then .ok true st1 else b σ st1
@[simp] def tNot (a : Tm) : Tm := fun σ st => (a σ st).bind fun c st1 => .ok (!c) st1
theorem st_sw {e : Expr} {m : Tm} (h : SW X W e m) : ST X W e m := PW.pt h
theorem sw_and1 {a : Expr} {m : Tm} {pos : Pos} (h : ST X W a m) : SW X W (.BoolOp .And [a] pos) m := pw_and1 h
theorem sw_or1 {a : Expr} {m : Tm} {pos : Pos} (h : ST X W a m) : SW X W (.BoolOp .Or [a] pos) m := pw_or1 h
theorem sw_and {a b : Expr} {r : List Expr} {ma mb : Tm} {pos : Pos} (ha : ST X W a ma) (hb : SW X W (.BoolOp .And (b :: r) pos) mb) : SW X W (.BoolOp .And (a :: b :: r) pos) (tAnd ma mb) :=
  pw_imp (pw_and ha hb) fun σV H Q q => by
    obtain ⟨w, σ, rfl, ok, sl, p⟩ := q
    refine ⟨w, σ, rfl, ok, sl, PR.bind ok p fun c st b mu H1 e1 s1 ok1 r1 p1 => ?_⟩
    subst r1
    cases b with
    | true => exact ⟨⟨mu, st, H1, w.op⟩, σ, rfl, ok1, sl.step s1 ok, p1⟩
    | false => exact PR.ret (R := fun _ b c => b = c) ok1 p1 rfl
theorem sw_or {a b : Expr} {r : List Expr} {ma mb : Tm} {pos : Pos} (ha : ST X W a ma) (hb : SW X W (.BoolOp .Or (b :: r) pos) mb) : SW X W (.BoolOp .Or (a :: b :: r) pos) (tOr ma mb) :=
  pw_imp (pw_or ha hb) fun σV H Q q => by
    obtain ⟨w, σ, rfl, ok, sl, p⟩ := q
    refine ⟨w, σ, rfl, ok, sl, PR.bind ok p fun c st b mu H1 e1 s1 ok1 r1 p1 => ?_⟩
    subst r1
    cases b with
    | false => exact ⟨⟨mu, st, H1, w.op⟩, σ, rfl, ok1, sl.step s1 ok, p1⟩
    | true => exact PR.ret (R := fun _ b c => b = c) ok1 p1 rfl
theorem st_not {a : Expr} {ma : Tm} {pos : Pos} (ha : ST X W a ma) : ST X W (.UnaryOp .Not a pos) (tNot ma) :=
  pt_imp (pt_not ha) fun σV H Q q => by
    obtain ⟨w, σ, rfl, ok, sl, p⟩ := q
    refine ⟨w, σ, rfl, ok, sl, PR.bind ok p fun c st b mu H1 e1 s1 ok1 r1 p1 => ?_⟩
    exact PR.ret (R := fun _ b c => b = c) ok1 p1 (by rw [r1])
/-- an expression whose value is a bool, as a test -/
theorem st_val {e : Expr} {m : Em} (h : SE X W e m) (he : ∀ whole, isTrue e X.env whole = (do let v ← whole; standAt e.pos; holding [v] (truthy v)) := by intro _; rfl) : ST X W e (tOf m) :=
  pt_imp (pt_val h he) fun σV H Q q => by
    obtain ⟨w, σ, h1, ok, sl, p⟩ := t_test q
    exact ⟨w, σ, h1, ok, sl, p⟩
/-- and, or, not of bools, as values -/
@[simp] def eAnd (a b : Em) : Em := fun σ st => (a σ st).bind fun d st1 => match d with
  | .bl true => b σ st1
  | .bl false => .ok (.bl false) st1
  | _ => .bad
@[simp] def eOr (a b : Em) : Em := fun σ st => (a σ st).bind fun d st1 => match d with
  | .bl true => .ok (.bl true) st1
  | .bl false => b σ st1
  | _ => .bad
@[simp] def eNot (a : Em) : Em := fun σ st => (a σ st).bind fun d st1 => match d with
  | .bl c => .ok (.bl (!c)) st1
  | _ => .bad
theorem se_one {a : Expr} {m : Em} {op} {pos : Pos} (h : SE X W a m) : SE X W (.BoolOp op [a] pos) m := pe_one h
theorem se_and {a b : Expr} {r : List Expr} {ma mb : Em} {pos : Pos} (ha : SE X W a ma) (hb : SE X W (.BoolOp .And (b :: r) pos) mb) : SE X W (.BoolOp .And (a :: b :: r) pos) (eAnd ma mb) :=
  pe_imp (pe_and ha hb) fun σV H Q q => by
    obtain ⟨w, σ, rfl, ok, sl, p⟩ := q
    refine ⟨w, σ, rfl, ok, sl, PR.bind ok p fun c st b mu H1 e1 s1 ok1 r1 p1 => ?_⟩
    cases r1 with
    | bl c =>
      refine ⟨c, rfl, ?_⟩
      cases c with
      | true => exact ⟨⟨mu, st, H1, w.op⟩, σ, rfl, ok1, sl.step s1 ok, p1⟩
      | false => exact PR.ret (R := Rep X.K) ok1 p1 (.bl false)
    | _ => exact p1.elim
theorem se_or {a b : Expr} {r : List Expr} {ma mb : Em} {pos : Pos} (ha : SE X W a ma) (hb : SE X W (.BoolOp .Or (b :: r) pos) mb) : SE X W (.BoolOp .Or (a :: b :: r) pos) (eOr ma mb) :=
  pe_imp (pe_or ha hb) fun σV H Q q => by
    obtain ⟨w, σ, rfl, ok, sl, p⟩ := q
    refine ⟨w, σ, rfl, ok, sl, PR.bind ok p fun c st b mu H1 e1 s1 ok1 r1 p1 => ?_⟩
    cases r1 with
    | bl c =>
      refine ⟨c, rfl, ?_⟩
      cases c with
      | false => exact ⟨⟨mu, st, H1, w.op⟩, σ, rfl, ok1, sl.step s1 ok, p1⟩
      | true => exact PR.ret (R := Rep X.K) ok1 p1 (.bl true)
    | _ => exact p1.elim
theorem se_not {a : Expr} {ma : Em} {pos : Pos} (ha : SE X W a ma) : SE X W (.UnaryOp .Not a pos) (eNot ma) :=
  pe_imp (pe_not ha) fun σV H Q q => by
    obtain ⟨w, σ, rfl, ok, sl, p⟩ := q
    refine ⟨w, σ, rfl, ok, sl, PR.bind ok p fun c st b mu H1 e1 s1 ok1 r1 p1 => ?_⟩
    cases r1 with
    | bl c => exact ⟨c, rfl, PR.ret (R := Rep X.K) ok1 p1 (.bl _)⟩
    | _ => exact p1.elim
@[simp] def eIf (t : Tm) (a b : Em) : Em := fun σ st => (t σ st).bind fun c st1 => if c = true then a σ st1 else b σ st1
theorem se_if {t a b : Expr} {mt : Tm} {ma mb : Em} {pos : Pos} (ht : ST X W t mt) (ha : SE X W a ma) (hb : SE X W b mb) : SE X W (.IfExp t a b pos) (eIf mt ma mb) :=
  pe_imp (pe_ifExp ht ha hb) fun σV H Q q => by
    obtain ⟨w, σ, rfl, ok, sl, p⟩ := q
    refine ⟨w, σ, rfl, ok, sl, PR.bind ok p fun c st b mu H1 e1 s1 ok1 r1 p1 => ?_⟩
    subst r1
    cases b with
    | true => exact ⟨⟨mu, st, H1, w.op⟩, σ, rfl, ok1, sl.step s1 ok, p1⟩
    | false => exact ⟨⟨mu, st, H1, w.op⟩, σ, rfl, ok1, sl.step s1 ok, p1⟩
/-- a op b op' c -/
@[simp] def eChain (g g' : D → D → Sto → Res D) (a b c : Em) : Em := fun σ st => (a σ st).bind fun x st1 => (b σ st1).bind fun y st2 => (g x y st2).bind fun z st3 => match z with
  | .bl true => (c σ st3).bind fun u st4 => g' y u st4
  | .bl false => .ok (.bl false) st3
  | _ => .bad
theorem t_chain {r r' : R2} {g g' : D → D → Sto → Res D} {a b c : Em} (hg : GOp X.K r g) (hg' : GOp X.K r' g') {σV : L2.St} {H : Hp} {Q : VK} (q : TEm X.K (eChain g g' a b c) W σV H Q) : tChain r r' (TEm X.K a W) (TEm X.K b W) (TEm X.K c W) σV H Q := by
  obtain ⟨w, σ, rfl, ok, sl, p⟩ := q
  refine ⟨w, σ, rfl, ok, sl, PR.bind ok p fun d st x mu H1 e1 s1 ok1 r1 p1 => ?_⟩
  refine ⟨⟨mu, st, H1, w.op⟩, σ, rfl, ok1, sl.step s1 ok, PR.bind ok1 p1 fun d2 st2 y mu2 H2 e2 s2 ok2 r2 p2 => ?_⟩
  refine hg ⟨mu2, st2, H2, w.op⟩ x y d d2 _ _ ok2 (r1.step s2 ok1) r2 (PR.bind ok2 p2 fun d3 st3 z mu3 H3 e3 s3 ok3 r3 p3 => ?_)
  cases r3 with
  | bl k =>
    refine ⟨k, rfl, ?_⟩
    cases k with
    | false => exact PR.ret (R := Rep X.K) ok3 p3 (.bl false)
    | true =>
      refine ⟨⟨mu3, st3, H3, w.op⟩, σ, rfl, ok3, ((sl.step s1 ok).step s2 ok1).step s3 ok2, PR.bind ok3 p3 fun d4 st4 u mu4 H4 e4 s4 ok4 r4 p4 => ?_⟩
      exact hg' ⟨mu4, st4, H4, w.op⟩ y u d2 d4 Q _ ok4 ((r2.step s3 ok2).step s4 ok3) r4 p4
  | _ => exact p3.elim
theorem se_chain {op op' : CmpOp} {r r' : R2} {g g' : D → D → Sto → Res D} {a b c : Expr} {ma mb mc : Em} {pos : Pos} (ho : OpR X (compareOp op) r) (ho' : OpR X (compareOp op') r') (hg : GOp X.K r g) (hg' : GOp X.K r' g') (ha : SE X W a ma) (hb : SE X W b mb) (hc : SE X W c mc)
    (hm : lastMarks [op, op'] [b, c] = false := by with_unfolding_all rfl) : SE X W (.Compare a [op, op'] [b, c] pos) (eChain g g' ma mb mc) :=
  pe_imp (pe_chain ho ho' ha hb hc hm) fun _ _ _ q => t_chain hg hg' q
theorem st_chain {op op' : CmpOp} {r r' : R2} {g g' : D → D → Sto → Res D} {a b c : Expr} {ma mb mc : Em} {pos : Pos} (ho : OpR X (compareOp op) r) (ho' : OpR X (compareOp op') r') (hg : GOp X.K r g) (hg' : GOp X.K r' g') (ha : SE X W a ma) (hb : SE X W b mb) (hc : SE X W c mc)
    (hm : lastMarks [op, op'] [b, c] = false := by with_unfolding_all rfl) : ST X W (.Compare a [op, op'] [b, c] pos) (tOf (eChain g g' ma mb mc)) :=
  pt_imp (pt_chain ho ho' ha hb hc hm) fun σV H Q q => by
    obtain ⟨w, σ, h1, ok, sl, p⟩ := t_test q
    exact t_chain hg hg' ⟨w, σ, h1, ok, sl, p⟩

/-! ### argument lists, displays -/
@[simp] def aNil : Am := fun _ st => .ok [] st
@[simp] def aCons (a : Em) (r : Am) : Am := fun σ st => (a σ st).bind fun d st1 => (r σ st1).bind fun ds st2 => .ok (d :: ds) st2
theorem sa_nil : SA X W [] aNil := pa_imp pa_nil fun σV H Q q => by
  obtain ⟨w, σ, rfl, ok, sl, p⟩ := q
  exact PR.ret (R := Reps X.K) ok p .nil
theorem sa_cons {e : Expr} {es : List Expr} {m : Em} {r : Am} (ha : SE X W e m) (hr : SA X W es r) (hs : starEach (e :: es) X.env = (false, eval e X.env) :: starEach es X.env := by rfl) : SA X W (e :: es) (aCons m r) :=
  pa_imp (pa_cons ha hr hs) fun σV H Q q => by
    obtain ⟨w, σ, rfl, ok, sl, p⟩ := q
    refine ⟨w, σ, rfl, ok, sl, PR.bind ok p fun d st x mu H1 e1 s1 ok1 r1 p1 => ?_⟩
    refine ⟨⟨mu, st, H1, w.op⟩, σ, rfl, ok1, sl.step s1 ok, PR.bind ok1 p1 fun ds st2 xs mu2 H2 e2 s2 ok2 r2 p2 => ?_⟩
    exact PR.ret (R := Reps X.K) ok2 p2 (.cons (r1.step s2 ok1) r2)
abbrev line : Nat := 16777216
theorem line_eq : sizeLine = line := sizeLine_eq
@[simp] def eTup (a : Am) : Em := fun σ st => (a σ st).bind fun ds st1 => if ds.length ≤ line then .ok (.tup ds) st1 else .bad
theorem Ok.notOp {K : Frag} {w : Wd} {p : Addr} (ok : Ok K w) (h : w.H p = none) : p ∉ w.op := fun z => (ok.opn p z).2 h
theorem rep_new_tup {K : Frag} {w : Wd} {p : Addr} {vs : List V} {ds : List D} (ok : Ok K w) (h : w.H p = none) (r : Reps K w vs ds) : Rep K (w.put p (.tup vs)) (.ref p) (.tup ds) :=
  .tup (.inl upd_same) (ok.notOp h) (r.step (put_step h) ok)
theorem rep_new_lst {K : Frag} {w : Wd} {p : Addr} {vs : List V} {ds : List D} (ok : Ok K w) (h : w.H p = none) (r : Reps K w vs ds) : Rep K (w.put p (.lst vs)) (.ref p) (.lst ds) :=
  .lst upd_same (put_live ok h) (ok.notOp h) (r.step (put_step h) ok)
/-- a result whose value is a new thing -/
theorem PR.new {K : Frag} {w : Wd} {d : D} {v : V} {Q : VK} {E : XK} {p : Addr} {o : HO} (ok : Ok K w) (h : w.H p = none) (q : PR K (Rep K) w (.ok d w.st) Q E) (r : Rep K (w.put p o) v d) : Q v (upd w.H p o) :=
  q v w.mu (upd w.H p o) (put_step h) (put_ok ok h) r
theorem se_tup {es : List Expr} {m : Am} {k : Nat} {pos : Pos} (h : SA X W es m) : SE X W (.Tuple es k pos) (eTup m) :=
  pe_imp (pe_tup h) fun σV H Q q => by
    obtain ⟨w, σ, rfl, ok, sl, p⟩ := q
    refine ⟨w, σ, rfl, ok, sl, PR.bind ok p fun ds st xs mu H1 e1 s1 ok1 r1 p1 => ?_⟩
    by_cases hl : ds.length ≤ line
    · rw [if_pos hl] at p1
      exact ⟨by rw [r1.length, line_eq]; exact hl, fun a ha => PR.new (w := ⟨mu, st, H1, w.op⟩) ok1 ha p1 (rep_new_tup ok1 ha r1)⟩
    · rw [if_neg hl] at p1; exact p1.elim
theorem PR.newRef {K : Frag} {w : Wd} {ds : List D} {xs : List V} {Q : VK} {E : XK} {p : Addr} (ok : Ok K w) (h : w.H p = none) (q : PR K (Rep K) w (.ok (.ref w.st.length) (w.st ++ [some (.lst ds)])) Q E) (r : Reps K w xs ds) : Q (.ref p) (upd w.H p (.lst xs)) := by
  refine q (.ref p) (w.mu ++ [p]) (upd w.H p (.lst xs)) (add_step h) (add_ok (u := .lst ds) ok h ⟨xs, upd_same, r.step (add_step h) ok⟩) (.ref ?_)
  show (w.mu ++ [p])[w.st.length]? = some p
  rw [← ok.len, List.getElem?_append_right (Nat.le_refl _)]
  simp
/-- a new list: by value, or (k) in the store -/
def mkL (k : Bool) (ds : List D) (st : Sto) : Res D := if ds.length ≤ line then (match k with
  | true => .ok (.ref st.length) (st ++ [some (.lst ds)])
  | false => .ok (.lst ds) st) else .bad
@[simp] theorem mkL_val (ds : List D) (st : Sto) : mkL false ds st = if ds.length ≤ line then .ok (.lst ds) st else .bad := rfl
@[simp] theorem mkL_ref (ds : List D) (st : Sto) : mkL true ds st = if ds.length ≤ line then .ok (.ref st.length) (st ++ [some (.lst ds)]) else .bad := rfl
theorem mkL_ok {K : Frag} {w : Wd} {k : Bool} {ds : List D} {vs : List V} {Q : VK} {E : XK} (ok : Ok K w) (q : PR K (Rep K) w (mkL k ds w.st) Q E) (r : Reps K w vs ds) : vs.length ≤ sizeLine ∧ ∀ p, w.H p = none → Q (.ref p) (upd w.H p (.lst vs)) := by
  unfold mkL at q
  by_cases hl : ds.length ≤ line
  · rw [if_pos hl] at q
    refine ⟨by rw [r.length, line_eq]; exact hl, fun p h => ?_⟩
    cases k with
    | true => exact PR.newRef ok h q r
    | false => exact PR.new ok h q (rep_new_lst ok h r)
  · rw [if_neg hl] at q; exact q.elim
@[simp] def eLst (k : Bool) (a : Am) : Em := fun σ st => (a σ st).bind fun ds st1 => mkL k ds st1
theorem se_lst {k : Bool} {es : List Expr} {m : Am} {pos : Pos} (h : SA X W es m) : SE X W (.List es pos) (eLst k m) :=
  pe_imp (pe_lst h) fun σV H Q q => by
    obtain ⟨w, σ, rfl, ok, sl, p⟩ := q
    refine ⟨w, σ, rfl, ok, sl, PR.bind ok p fun ds st xs mu H1 e1 s1 ok1 r1 p1 => mkL_ok (w := ⟨mu, st, H1, w.op⟩) ok1 p1 r1⟩
/-- no more changed from here on: the contents by value -/
def frzD (d : D) (st : Sto) : Res D := match d with
  | .ref n => match st[n]? with
    | some (some (.lst ds)) => .ok (.lst ds) (st.set n none)
    | some (some (.ins C fs)) => .ok (.ins C fs) (st.set n none)
    | _ => .bad
  | d => .ok d st
theorem frz_ok {K : Frag} {w : Wd} {v : V} {d : D} {Q : VK} {E : XK} (ok : Ok K w) (r : Rep K w v d) (q : PR K (Rep K) w (frzD d w.st) Q E) : Q v w.H := by
  cases r with
  | @ref a n h =>
    unfold frzD at q
    have nop : a ∉ w.op := fun z => (ok.opn a z).1 (List.mem_of_getElem? h)
    cases e : w.st[n]? with
    | none => simp only [e] at q; exact q.elim
    | some o =>
      cases o with
      | none => simp only [e] at q; exact q.elim
      | some o =>
        have ro := ok.obj n a o h e
        cases o with
        | lst ds =>
          simp only [e] at q
          obtain ⟨vs, h1, h2⟩ := ro
          exact q (.ref a) w.mu w.H kill_step (kill_ok ok) (.lst h1 (kill_live ok h) nop (h2.step (kill_step (n := n)) ok))
        | ins C fs =>
          simp only [e] at q
          obtain ⟨dx, fv, h1, h2, hc⟩ := ro
          exact q (.ref a) w.mu w.H kill_step (kill_ok ok) (.ins h1 (kill_live ok h) nop (h2.step (kill_step (n := n)) ok) hc)
  | non => exact PR.ret (R := Rep K) ok q .non
  | bl b => exact PR.ret (R := Rep K) ok q (.bl b)
  | int i => exact PR.ret (R := Rep K) ok q (.int i)
  | str z => exact PR.ret (R := Rep K) ok q (.str z)
  | ty n => exact PR.ret (R := Rep K) ok q (.ty n)
  | tup h ho hs => exact PR.ret (R := Rep K) ok q (.tup h ho hs)
  | ktup h hs => exact PR.ret (R := Rep K) ok q (.ktup h hs)
  | lst h hl ho hs => exact PR.ret (R := Rep K) ok q (.lst h hl ho hs)
  | scr h hl ho hs => exact PR.ret (R := Rep K) ok q (.scr h hl ho hs)
  | kscr h ht hs => exact PR.ret (R := Rep K) ok q (.kscr h ht hs)
  | ins h hl ho hs hc => exact PR.ret (R := Rep K) ok q (.ins h hl ho hs hc)
  | exo h h2 hl hl2 ho ho2 hs hc => exact PR.ret (R := Rep K) ok q (.exo h h2 hl hl2 ho ho2 hs hc)

/-! ### statements -/
@[simp] def RS.seq (r : RS) (f : Sl → Sto → RS) : RS := match r with
  | .nx σ st => f σ st
  | .rt d st => .rt d st
  | .bk σ st => .bk σ st
  | .ct σ st => .ct σ st
  | .exc x σ st => .exc x σ st
  | .bad => .bad
@[simp] def Res.toRS {α : Type} (r : Res α) (σ : Sl) (f : α → Sto → RS) : RS := match r with
  | .ok a st => f a st
  | .exc x st => .exc x σ st
  | .bad => .bad
@[simp] def sNil : Sm := fun σ st => .nx σ st
@[simp] def sSeq (a b : Sm) : Sm := fun σ st => (a σ st).seq b
theorem PSr.seq {K : Frag} {w : Wd} {r : RS} {f : Sl → Sto → RS} {D : Ends} {W : WX} {nx : L2.St → Hp → Prop} (ok : Ok K w) (h : PSr K w (r.seq f) D W)
    (k : ∀ σ st σV mu H, r = .nx σ st → Step w ⟨mu, st, H, w.op⟩ → Ok K ⟨mu, st, H, w.op⟩ → Slots K ⟨mu, st, H, w.op⟩ σ σV → PSr K ⟨mu, st, H, w.op⟩ (f σ st) D W → nx σV H) : PSr K w r { D with nx := nx } W := by
  cases r with
  | nx σ st => exact fun σV mu H t o q => k σ st σV mu H rfl t o q (PSr.step t ok h)
  | rt d st => exact h
  | bk σ st => exact h
  | ct σ st => exact h
  | exc x σ st => exact h
  | bad => exact h
theorem PSr.ret {K : Frag} {w : Wd} {σ : Sl} {σV : L2.St} {D : Ends} {W : WX} (ok : Ok K w) (h : PSr K w (.nx σ w.st) D W) (sl : Slots K w σ σV) : D.nx σV w.H := by
  obtain ⟨mu, st, H, op⟩ := w
  exact h σV mu H (.refl _) ok sl
/-- from a statement's result to an expression's -/
theorem PSr.toR {α β : Type} {K : Frag} {w : Wd} {R : Wd → β → α → Prop} {r : Res α} {f : α → Sto → RS} {σ : Sl} {σV : L2.St} {D : Ends} {W : WX} {Q : β → Hp → Prop} (ok : Ok K w) (sl : Slots K w σ σV) (h : PSr K w (r.toRS σ f) D W)
    (k : ∀ d st b mu H, r = .ok d st → Step w ⟨mu, st, H, w.op⟩ → Ok K ⟨mu, st, H, w.op⟩ → R ⟨mu, st, H, w.op⟩ b d → PSr K ⟨mu, st, H, w.op⟩ (f d st) D W → Q b H) : PR K R w r Q (xk W σV) := by
  cases r with
  | ok d st => exact fun b mu H t o q => k d st b mu H rfl t o q (PSr.step t ok h)
  | exc x st => exact fun c dd mu H t o q => h c dd σV mu H t o (sl.step t ok) q
  | bad => exact h
theorem sss_nil : SSs X W [] sNil := pss_imp pss_nil fun D σV H q => by
  obtain ⟨w, σ, rfl, ok, sl, p⟩ := q
  exact PSr.ret ok p sl
theorem sss_cons {s : Stmt} {r : List Stmt} {a b : Sm} (h1 : SS X W s a) (h2 : SSs X W r b) : SSs X W (s :: r) (sSeq a b) :=
  pss_imp (pss_cons h1 h2) fun D σV H q => by
    obtain ⟨w, σ, rfl, ok, sl, p⟩ := q
    exact ⟨w, σ, rfl, ok, sl, PSr.seq ok p fun σ' st' σV' mu H1 e1 s1 ok1 sl1 p1 => ⟨⟨mu, st', H1, w.op⟩, σ', rfl, ok1, sl1, p1⟩⟩
theorem sss_one {s : Stmt} {a : Sm} (h1 : SS X W s a) : SSs X W [s] a := pss_one h1
theorem ss_pass {pos : Pos} : SS X W (.Pass pos) sNil := ps_imp ps_pass fun D σV H q => by
  obtain ⟨w, σ, rfl, ok, sl, p⟩ := q
  exact PSr.ret ok p sl
@[simp] def sBreak : Sm := fun σ st => .bk σ st
@[simp] def sCont : Sm := fun σ st => .ct σ st
theorem ss_break {pos : Pos} : SS X W (.Break pos) sBreak := ps_imp ps_break fun D σV H q => by
  obtain ⟨w, σ, rfl, ok, sl, p⟩ := q
  exact p σV w.mu w.H (.refl _) ok sl
theorem ss_cont {pos : Pos} : SS X W (.Continue pos) sCont := ps_imp ps_continue fun D σV H q => by
  obtain ⟨w, σ, rfl, ok, sl, p⟩ := q
  exact p σV w.mu w.H (.refl _) ok sl
@[simp] def sRet (m : Em) : Sm := fun σ st => (m σ st).toRS σ fun d st1 => .rt d st1
theorem ss_ret {e : Expr} {m : Em} {pos : Pos} (h : SE X W e m) : SS X W (.Return (some e) pos) (sRet m) := ps_imp (ps_ret h) fun D σV H q => by
  obtain ⟨w, σ, rfl, ok, sl, p⟩ := q
  exact ⟨w, σ, rfl, ok, sl, PSr.toR ok sl p fun d st v mu H1 e1 s1 ok1 r1 p1 => p1 v mu H1 (.refl _) ok1 r1⟩
@[simp] def sRetN : Sm := fun σ st => .rt .non st
theorem ss_retN {pos : Pos} : SS X W (.Return none pos) sRetN := ps_imp ps_retN fun D σV H q => by
  obtain ⟨w, σ, rfl, ok, sl, p⟩ := q
  exact p .non w.mu w.H (.refl _) ok .non
@[simp] def sExpr (m : Em) : Sm := fun σ st => (m σ st).toRS σ fun _ st1 => .nx σ st1
theorem ss_expr {e : Expr} {m : Em} {pos : Pos} (h : SE X W e m) (hs : swapsWith e none pos.line X.env = pure false := by rfl) : SS X W (.Expr e pos) (sExpr m) := ps_imp (ps_expr h hs) fun D σV H q => by
  obtain ⟨w, σ, rfl, ok, sl, p⟩ := q
  exact ⟨w, σ, rfl, ok, sl, PSr.toR ok sl p fun d st v mu H1 e1 s1 ok1 r1 p1 => PSr.ret ok1 p1 (sl.step s1 ok)⟩
@[simp] def sIf (t : Tm) (a b : Sm) : Sm := fun σ st => (t σ st).toRS σ fun c st1 => if c = true then a σ st1 else b σ st1
theorem ss_if {t : Expr} {a b : List Stmt} {mt : Tm} {ma mb : Sm} {pos : Pos} (ht : ST X W t mt) (ha : SSs X W a ma) (hb : SSs X W b mb) : SS X W (.If t a b pos) (sIf mt ma mb) := ps_imp (ps_if ht ha hb) fun D σV H q => by
  obtain ⟨w, σ, rfl, ok, sl, p⟩ := q
  refine ⟨w, σ, rfl, ok, sl, PSr.toR ok sl p fun c st b mu H1 e1 s1 ok1 r1 p1 => ?_⟩
  subst r1
  cases b with
  | true => exact ⟨⟨mu, st, H1, w.op⟩, σ, rfl, ok1, sl.step s1 ok, p1⟩
  | false => exact ⟨⟨mu, st, H1, w.op⟩, σ, rfl, ok1, sl.step s1 ok, p1⟩
@[simp] def sSet (i : Nat) (m : Em) : Sm := fun σ st => (m σ st).toRS σ fun d st1 => .nx (σ.set i (some d)) st1
theorem ss_set {i : Nat} {x : Str} {e : Expr} {m : Em} {pos pos' : Pos} (hN : X.N.Nodup) (hi : X.N[i]? = some x) (hx : Loc X.env.scope x) (he : SE X W e m) (hs : swapsWith e (some (.Name x pos')) pos.line X.env = pure false := by rfl) (hf : X.fn x = true ∨ X.env.scope.names.lookup x = some .local := by first | exact .inl rfl | exact .inr rfl | assumption) :
    SS X W (.Assign [.Name x pos'] e pos) (sSet i m) := ps_imp (ps_set hN hi hx he hs hf) fun D σV H q => by
  obtain ⟨w, σ, rfl, ok, sl, p⟩ := q
  refine ⟨w, σ, rfl, ok, sl, PSr.toR ok sl p fun d st v mu H1 e1 s1 ok1 r1 p1 => ?_⟩
  exact PSr.ret (w := ⟨mu, st, H1, w.op⟩) ok1 p1 ((sl.step s1 ok).set r1 i)
end
end Sim

set_option Elab.async false
set_option linter.all false
set_option maxRecDepth 100000
set_option maxHeartbeats 4000000
/-! operators, defs and calls -/
namespace Sim
open PySem PySem.Spec PyProof.Rows L2

/-! ### ints -/
def iOp (f : Int → Int → D) : D → D → Sto → Res D := fun x y st => match x, y with
  | .int i, .int j => .ok (f i j) st
  | _, _ => .bad
def iOpC (c : Int → Int → Bool) (f : Int → Int → D) : D → D → Sto → Res D := fun x y st => match x, y with
  | .int i, .int j => if c i j = true then .ok (f i j) st else .bad
  | _, _ => .bad
@[simp] theorem iOp_int (f : Int → Int → D) (i j : Int) (st : Sto) : iOp f (.int i) (.int j) st = .ok (f i j) st := rfl
@[simp] theorem iOpC_int (c : Int → Int → Bool) (f : Int → Int → D) (i j : Int) (st : Sto) : iOpC c f (.int i) (.int j) st = if c i j = true then .ok (f i j) st else .bad := rfl
section
variable {K : Frag}
theorem gop_I0 {f : Int → Int → D} {g : Int → Int → V} (h : ∀ w i j, Rep K w (g i j) (f i j)) : GOp K (rI0 g) (iOp f) := by
  intro w x y dx dy Q E ok rx ry p
  cases rx with
  | int i =>
    cases ry with
    | int j => exact ⟨i, j, rfl, rfl, PR.ret (R := Rep K) ok p (h w i j)⟩
    | _ => exact p.elim
  | _ => exact p.elim
theorem gop_IC {c : Int → Int → Bool} {C : Int → Int → Prop} {f : Int → Int → D} {g : Int → Int → V} (hc : ∀ i j, c i j = true → C i j) (h : ∀ w i j, Rep K w (g i j) (f i j)) : GOp K (rI C g) (iOpC c f) := by
  intro w x y dx dy Q E ok rx ry p
  cases rx with
  | int i =>
    cases ry with
    | int j =>
      rw [iOpC_int] at p
      by_cases hh : c i j = true
      · rw [if_pos hh] at p
        exact ⟨i, j, rfl, rfl, hc i j hh, PR.ret (R := Rep K) ok p (h w i j)⟩
      · rw [if_neg hh] at p; exact p.elim
    | _ => exact p.elim
  | _ => exact p.elim
def mulOk (i j : Int) : Bool := decide (i.natAbs < 2 ^ 64) || decide (j.natAbs < 2 ^ 64) || decide (i.natAbs.log2 + j.natAbs.log2 < 100000000)
theorem mulOk_ok {i j : Int} (h : mulOk i j = true) : IntMulOk i j := by
  unfold mulOk at h
  simp only [Bool.or_eq_true, decide_eq_true_eq] at h
  rcases h with (h | h) | h
  · exact .of_left (intBits_le_64 (by omega) (by omega))
  · exact .of_right (intBits_le_64 (by omega) (by omega))
  · have b : ∀ x : Int, Builtin.Int.intBits x ≤ x.natAbs.log2 + 1 := fun x => by
      unfold Builtin.Int.intBits
      split <;> omega
    have h1 := b i
    have h2 := b j
    have e : bitsLine = 134217728 := by decide
    unfold IntMulOk
    intro z
    rw [Bool.and_eq_true] at z
    have z2 := z.2
    unfold Builtin.Int.intTooBig at z2
    have z3 := of_decide_eq_true z2
    rw [e] at z3
    omega
def divOk (_ j : Int) : Bool := decide (j ≠ 0) && decide (j.natAbs.log2 < 9000)
def powOk (i j : Int) : Bool := decide (0 ≤ j) && (decide (j ≤ 1000000) && decide (i.natAbs < 2 ^ 64))
def subI := iOp fun i j => .int (i - j)
def mulI := iOpC mulOk fun i j => .int (i * j)
def fdivI := iOpC divOk fun i j => .int (i.fdiv j)
def modI := iOpC (fun _ j => decide (j ≠ 0)) fun i j => .int (i.fmod j)
def powI := iOpC powOk fun i j => .int (i ^ j.toNat)
def shlI := iOpC powOk fun i j => .int (i * 2 ^ j.toNat)
def ltI := iOp fun i j => .bl (decide (i < j))
def leI := iOp fun i j => .bl (decide (i ≤ j))
def gtI := iOp fun i j => .bl (decide (j < i))
def geI := iOp fun i j => .bl (decide (j ≤ i))
/-- ints, texts -/
def addD : D → D → Sto → Res D := fun x y st => match x, y with
  | .int i, .int j => .ok (.int (i + j)) st
  | .str i, .str j => if i.length + j.length ≤ line then .ok (.str (i ++ j)) st else .bad
  | _, _ => .bad
@[simp] theorem addD_int (i j : Int) (st : Sto) : addD (.int i) (.int j) st = .ok (.int (i + j)) st := rfl
@[simp] theorem addD_str (i j : Str) (st : Sto) : addD (.str i) (.str j) st = if i.length + j.length ≤ line then .ok (.str (i ++ j)) st else .bad := rfl
section
variable {X : Cx} {W : WX} {a b : Expr} {ma mb : Em} {pos : Pos}
theorem op_divR : OpR X (binaryOp .FloorDiv) (rI (fun _ j => j ≠ 0 ∧ j.natAbs.log2 < 9000) fun i j => .int (i.fdiv j)) := opI fun i j _ _ _ _ _ hc q => floordiv_int hc.1 q (.inl (PyProof.noPylong_of_log2 hc.2))
theorem op_mulI : OpR X (binaryOp .Mult) (rI IntMulOk fun i j => .int (i * j)) := opI fun _ _ _ _ _ _ _ hc q => mul_int q hc
theorem se_add (ha : SE X W a ma) (hb : SE X W b mb) : SE X W (.BinOp a .Add b pos) (eBin addD ma mb) := se_bin (op_add.or op_add_str) (by
  intro w x y dx dy Q E ok rx ry p
  cases rx with
  | int i =>
    cases ry with
    | int j => exact .inl ⟨i, j, rfl, rfl, PR.ret (R := Rep X.K) ok p (.int _)⟩
    | _ => exact p.elim
  | str i =>
    cases ry with
    | str j =>
      rw [addD_str] at p
      by_cases hh : i.length + j.length ≤ line
      · rw [if_pos hh] at p
        exact .inr ⟨i, j, rfl, rfl, by rw [line_eq]; exact hh, PR.ret (R := Rep X.K) ok p (.str _)⟩
      · rw [if_neg hh] at p; exact p.elim
    | _ => exact p.elim
  | _ => exact p.elim) ha hb
theorem se_sub (ha : SE X W a ma) (hb : SE X W b mb) : SE X W (.BinOp a .Sub b pos) (eBin subI ma mb) := se_bin op_sub (gop_I0 fun _ _ _ => .int _) ha hb
theorem se_mul (ha : SE X W a ma) (hb : SE X W b mb) : SE X W (.BinOp a .Mult b pos) (eBin mulI ma mb) := se_bin op_mulI (gop_IC (fun _ _ => mulOk_ok) fun _ _ _ => .int _) ha hb
theorem se_fdiv (ha : SE X W a ma) (hb : SE X W b mb) : SE X W (.BinOp a .FloorDiv b pos) (eBin fdivI ma mb) := se_bin op_divR (gop_IC (fun _ _ h => by
  unfold divOk at h
  rw [Bool.and_eq_true, decide_eq_true_eq, decide_eq_true_eq] at h
  exact h) fun _ _ _ => .int _) ha hb
theorem se_mod (ha : SE X W a ma) (hb : SE X W b mb) : SE X W (.BinOp a .Mod b pos) (eBin modI ma mb) := se_bin op_modN (gop_IC (fun _ _ h => of_decide_eq_true h) fun _ _ _ => .int _) ha hb
theorem powOk_ok {i j : Int} (h : powOk i j = true) : CPow i j := by
  unfold powOk at h
  simp only [Bool.and_eq_true, decide_eq_true_eq] at h
  exact ⟨h.1, h.2.1, h.2.2⟩
theorem se_pow (ha : SE X W a ma) (hb : SE X W b mb) : SE X W (.BinOp a .Pow b pos) (eBin powI ma mb) := se_bin op_pow (gop_IC (fun _ _ => powOk_ok) fun _ _ _ => .int _) ha hb
theorem se_shl (ha : SE X W a ma) (hb : SE X W b mb) : SE X W (.BinOp a .LShift b pos) (eBin shlI ma mb) := se_bin op_shl (gop_IC (fun _ _ => powOk_ok) fun _ _ _ => .int _) ha hb
theorem se_lt (ha : SE X W a ma) (hb : SE X W b mb) : SE X W (.Compare a [.Lt] [b] pos) (eBin ltI ma mb) := se_cmp op_lt (gop_I0 fun _ _ _ => .bl _) ha hb (nomark _)
theorem se_le (ha : SE X W a ma) (hb : SE X W b mb) : SE X W (.Compare a [.LtE] [b] pos) (eBin leI ma mb) := se_cmp op_le (gop_I0 fun _ _ _ => .bl _) ha hb (nomark _)
theorem se_gt (ha : SE X W a ma) (hb : SE X W b mb) : SE X W (.Compare a [.Gt] [b] pos) (eBin gtI ma mb) := se_cmp op_gt (gop_I0 fun _ _ _ => .bl _) ha hb (nomark _)
theorem se_ge (ha : SE X W a ma) (hb : SE X W b mb) : SE X W (.Compare a [.GtE] [b] pos) (eBin geI ma mb) := se_cmp op_ge (gop_I0 fun _ _ _ => .bl _) ha hb (nomark _)
theorem st_lt (ha : SE X W a ma) (hb : SE X W b mb) : ST X W (.Compare a [.Lt] [b] pos) (tOf (eBin ltI ma mb)) := st_cmp op_lt (gop_I0 fun _ _ _ => .bl _) ha hb (nomark _)
theorem st_le (ha : SE X W a ma) (hb : SE X W b mb) : ST X W (.Compare a [.LtE] [b] pos) (tOf (eBin leI ma mb)) := st_cmp op_le (gop_I0 fun _ _ _ => .bl _) ha hb (nomark _)
theorem st_gt (ha : SE X W a ma) (hb : SE X W b mb) : ST X W (.Compare a [.Gt] [b] pos) (tOf (eBin gtI ma mb)) := st_cmp op_gt (gop_I0 fun _ _ _ => .bl _) ha hb (nomark _)
theorem st_ge (ha : SE X W a ma) (hb : SE X W b mb) : ST X W (.Compare a [.GtE] [b] pos) (tOf (eBin geI ma mb)) := st_cmp op_ge (gop_I0 fun _ _ _ => .bl _) ha hb (nomark _)
theorem gop_lt : GOp X.K (rI0 fun i j => .bl (decide (i < j))) ltI := gop_I0 fun _ _ _ => .bl _
theorem gop_le : GOp X.K (rI0 fun i j => .bl (decide (i ≤ j))) leI := gop_I0 fun _ _ _ => .bl _
theorem gop_gt : GOp X.K (rI0 fun i j => .bl (decide (j < i))) gtI := gop_I0 fun _ _ _ => .bl _
theorem gop_ge : GOp X.K (rI0 fun i j => .bl (decide (j ≤ i))) geI := gop_I0 fun _ _ _ => .bl _
def negI : D → Sto → Res D := fun x st => match x with
  | .int i => .ok (.int (-i)) st
  | _ => .bad
@[simp] theorem negI_int (i : Int) (st : Sto) : negI (.int i) st = .ok (.int (-i)) st := rfl
theorem se_neg (ha : SE X W a ma) : SE X W (.UnaryOp .USub a pos) (eUn negI ma) := se_un un_neg (by
  intro w x dx Q E ok rx p
  cases rx with
  | int i => exact ⟨i, rfl, PR.ret (R := Rep X.K) ok p (.int _)⟩
  | _ => exact p.elim) ha
def isN : D → D → Sto → Res D := fun x y st => match x, y with
  | .non, .non => .ok (.bl true) st
  | _, .non => .ok (.bl false) st
  | _, _ => .bad
def notN : D → D → Sto → Res D := fun x y st => match x, y with
  | .non, .non => .ok (.bl false) st
  | _, .non => .ok (.bl true) st
  | _, _ => .bad
theorem gop_isN : GOp X.K (fun x y H Q => y = .non ∧ Q (.bl (decide (x = .non))) H) isN := by
  intro w x y dx dy Q E ok rx ry p
  cases ry with
  | non => cases rx <;> exact ⟨rfl, PR.ret (R := Rep X.K) ok p (by simp; exact .bl _)⟩
  | _ => cases rx <;> exact p.elim
theorem gop_notN : GOp X.K (fun x y H Q => y = .non ∧ Q (.bl (!decide (x = .non))) H) notN := by
  intro w x y dx dy Q E ok rx ry p
  cases ry with
  | non => cases rx <;> exact ⟨rfl, PR.ret (R := Rep X.K) ok p (by simp; exact .bl _)⟩
  | _ => cases rx <;> exact p.elim
theorem se_isN (ha : SE X W a ma) (hb : SE X W b mb) : SE X W (.Compare a [.Is] [b] pos) (eBin isN ma mb) := se_cmp op_isN gop_isN ha hb (nomark _)
theorem se_notN (ha : SE X W a ma) (hb : SE X W b mb) : SE X W (.Compare a [.IsNot] [b] pos) (eBin notN ma mb) := se_cmp op_notN gop_notN ha hb (nomark _)
theorem st_isN (ha : SE X W a ma) (hb : SE X W b mb) : ST X W (.Compare a [.Is] [b] pos) (tOf (eBin isN ma mb)) := st_cmp op_isN gop_isN ha hb (nomark _)
theorem st_notN (ha : SE X W a ma) (hb : SE X W b mb) : ST X W (.Compare a [.IsNot] [b] pos) (tOf (eBin notN ma mb)) := st_cmp op_notN gop_notN ha hb (nomark _)
end
end

/-! ### == of data -/
mutual
def D.py : D → Option PyData
  | .non => some .none
  | .bl b => some (.bool b)
  | .int i => some (.int i)
  | .str s => some (.str s)
  | .tup ds => (D.pys ds).map .tuple
  | .lst ds => (D.pys ds).map .list
  | .ty _ => none
  | .ins _ _ => none
  | .ref _ => none
  | .scr _ => none
def D.pys : List D → Option (List PyData)
  | [] => some []
  | d :: ds => match D.py d, D.pys ds with
    | some a, some b => some (a :: b)
    | _, _ => none
end
def pyOf (d : D) (st : Sto) : Option PyData := match d with
  | .ref n => match st[n]? with
    | some (some (.lst ds)) => (D.pys ds).map .list
    | _ => none
  | d => d.py
section
variable {K : Frag} {w : Wd}
mutual
theorem Rep.dp : ∀ {v : V} {d : D} {p : PyData}, Rep K w v d → d.py = some p → Dp K w.H v p
  | _, _, _, .non, e => by simp [D.py] at e; subst e; exact .non
  | _, _, _, .bl b, e => by simp [D.py] at e; subst e; exact .bl b
  | _, _, _, .int i, e => by simp [D.py] at e; subst e; exact .int i
  | _, _, _, .str s, e => by simp [D.py] at e; subst e; exact .str s
  | _, _, _, .ty n, e => by simp [D.py] at e
  | _, _, _, .tup h ho hs, e => by
    simp only [D.py, Option.map_eq_some_iff] at e
    obtain ⟨ps, e1, e2⟩ := e
    subst e2
    exact .tup (.inl h) (Reps.dp hs e1)
  | _, _, _, .ktup h hs, e => by
    simp only [D.py, Option.map_eq_some_iff] at e
    obtain ⟨ps, e1, e2⟩ := e
    subst e2
    exact .tup (h _) (Reps.dp hs e1)
  | _, _, _, .lst h hl ho hs, e => by
    simp only [D.py, Option.map_eq_some_iff] at e
    obtain ⟨ps, e1, e2⟩ := e
    subst e2
    exact .lst (.inl (.inl h)) (Reps.dp hs e1)
  | _, _, _, .scr _ _ _ _, e => by simp [D.py] at e
  | _, _, _, .kscr _ _ _, e => by simp [D.py] at e
  | _, _, _, .ins _ _ _ _ _, e => by simp [D.py] at e
  | _, _, _, .exo _ _ _ _ _ _ _ _, e => by simp [D.py] at e
  | _, _, _, .ref _, e => by simp [D.py] at e
theorem Reps.dp : ∀ {vs : List V} {ds : List D} {ps : List PyData}, Reps K w vs ds → D.pys ds = some ps → DpAll K w.H vs ps
  | _, _, _, .nil, e => by simp [D.pys] at e; subst e; exact .nil
  | _, _, _, @Reps.cons _ _ _ d _ ds r t, e => by
    simp only [D.pys] at e
    cases e1 : d.py with
    | none => rw [e1] at e; cases e
    | some a =>
      cases e2 : D.pys ds with
      | none => rw [e1, e2] at e; cases e
      | some b =>
        rw [e1, e2] at e
        cases e
        exact .cons (Rep.dp r e1) (Reps.dp t e2)
end
theorem Rep.dpOf {v : V} {d : D} {p : PyData} (ok : Ok K w) (r : Rep K w v d) (e : pyOf d w.st = some p) : Dp K w.H v p := by
  cases r with
  | @ref a n h =>
    unfold pyOf at e
    cases q : w.st[n]? with
    | none => simp only [q] at e; cases e
    | some o =>
      cases o with
      | none => simp only [q] at e; cases e
      | some o =>
        cases o with
        | ins C fs => simp only [q] at e; cases e
        | lst ds =>
          simp only [q, Option.map_eq_some_iff] at e
          obtain ⟨ps, e1, e2⟩ := e
          subst e2
          obtain ⟨vs, h1, h2⟩ := ok.obj n a _ h q
          exact .lst (.inl (.inl h1)) (h2.dp e1)
  | non => exact Rep.dp .non e
  | bl b => exact Rep.dp (.bl b) e
  | int i => exact Rep.dp (.int i) e
  | str z => exact Rep.dp (.str z) e
  | ty n => exact Rep.dp (.ty n) e
  | tup h ho hs => exact Rep.dp (.tup h ho hs) e
  | ktup h hs => exact Rep.dp (.ktup h hs) e
  | lst h hl ho hs => exact Rep.dp (.lst h hl ho hs) e
  | scr h hl ho hs => exact Rep.dp (.scr h hl ho hs) e
  | kscr h ht hs => exact Rep.dp (.kscr h ht hs) e
  | ins h hl ho hs hc => exact Rep.dp (.ins h hl ho hs hc) e
  | exo h h2 hl hl2 ho ho2 hs hc => exact Rep.dp (.exo h h2 hl hl2 ho ho2 hs hc) e
end
def eqD : D → D → Sto → Res D := fun x y st => match pyOf x st, pyOf y st with
  | some a, some b => if (SeqAt.shaped a && SeqAt.shaped b) = true then .ok (.bl (PyData.eqv a b)) st else .bad
  | _, _ => .bad
def neD : D → D → Sto → Res D := fun x y st => match pyOf x st, pyOf y st with
  | some a, some b => if (SeqAt.shaped a && SeqAt.shaped b) = true then .ok (.bl (!PyData.eqv a b)) st else .bad
  | _, _ => .bad
section
variable {X : Cx} {W : WX} {a b : Expr} {ma mb : Em} {pos : Pos}
theorem gop_eq : GOp X.K (rEqD X.K) eqD := by
  intro w x y dx dy Q E ok rx ry p
  unfold eqD at p
  cases e1 : pyOf dx w.st with
  | none => rw [e1] at p; exact p.elim
  | some a =>
    cases e2 : pyOf dy w.st with
    | none => rw [e1, e2] at p; exact p.elim
    | some b =>
      rw [e1, e2] at p
      by_cases hs : (SeqAt.shaped a && SeqAt.shaped b) = true
      · simp only [if_pos hs] at p
        obtain ⟨h1, h2⟩ := Bool.and_eq_true_iff.mp hs
        exact ⟨a, b, rx.dpOf ok e1, ry.dpOf ok e2, h1, h2, PR.ret (R := Rep X.K) ok p (.bl _)⟩
      · simp only [if_neg hs] at p; exact p.elim
theorem gop_ne : GOp X.K (rNeD X.K) neD := by
  intro w x y dx dy Q E ok rx ry p
  unfold neD at p
  cases e1 : pyOf dx w.st with
  | none => rw [e1] at p; exact p.elim
  | some a =>
    cases e2 : pyOf dy w.st with
    | none => rw [e1, e2] at p; exact p.elim
    | some b =>
      rw [e1, e2] at p
      by_cases hs : (SeqAt.shaped a && SeqAt.shaped b) = true
      · simp only [if_pos hs] at p
        obtain ⟨h1, h2⟩ := Bool.and_eq_true_iff.mp hs
        exact ⟨a, b, rx.dpOf ok e1, ry.dpOf ok e2, h1, h2, PR.ret (R := Rep X.K) ok p (.bl _)⟩
      · simp only [if_neg hs] at p; exact p.elim
variable {k : Nat}
theorem se_eq (hr : Room k X.A) (ha : SE X W a ma) (hb : SE X W b mb) : SE X W (.Compare a [.Eq] [b] pos) (eBin eqD ma mb) := se_cmp (op_eqD hr.units) gop_eq ha hb (nomark _)
theorem se_ne (hr : Room k X.A) (ha : SE X W a ma) (hb : SE X W b mb) : SE X W (.Compare a [.NotEq] [b] pos) (eBin neD ma mb) := se_cmp (op_neD hr.units) gop_ne ha hb (nomark _)
theorem st_eq (hr : Room k X.A) (ha : SE X W a ma) (hb : SE X W b mb) : ST X W (.Compare a [.Eq] [b] pos) (tOf (eBin eqD ma mb)) := st_cmp (op_eqD hr.units) gop_eq ha hb (nomark _)
theorem st_ne (hr : Room k X.A) (ha : SE X W a ma) (hb : SE X W b mb) : ST X W (.Compare a [.NotEq] [b] pos) (tOf (eBin neD ma mb)) := st_cmp (op_neD hr.units) gop_ne ha hb (nomark _)
end

/-! ### defs -/
/-- at a def's end: what it made in the store and does not hand out is forgotten -/
def finR (n : Nat) (d : D) (st : Sto) : Res D := if st.length ≤ n then .ok d st else if (D.und n d && stoBelow n (st.take n)) = true then .ok d (st.take n) else .ok d st
def finX (n : Nat) (x : Exn) (st : Sto) : Res D := if (D.undF n x.fs && stoBelow n (st.take n)) = true then .exc x (st.take n) else .exc x st
def runDef (n : Nat) (body : Sm) (args : List D) (st : Sto) : Res D := match body (args.map some ++ List.replicate (n - args.length) none) st with
  | .nx _ st' => finR st.length .non st'
  | .rt d st' => finR st.length d st'
  | .exc x _ st' => finX st.length x st'
  | _ => .bad
section
variable {K : Frag} {w w' : Wd}
def Wd.cut (w : Wd) (n : Nat) : Wd := ⟨w.mu.take n, w.st.take n, w.H, w.op⟩
theorem cut_live {n : Nat} {a : Addr} (h : Live (w.cut n) a) : Live w a := by
  obtain ⟨m, o, h1, h2⟩ := h
  have h1 : (w.mu.take n)[m]? = some a := h1
  have h2 : (w.st.take n)[m]? = some (some o) := h2
  rw [List.getElem?_take] at h1 h2
  split at h1
  · rename_i hm
    rw [if_pos hm] at h2
    exact ⟨m, o, h1, h2⟩
  · cases h1
mutual
theorem Rep.cut {n : Nat} : ∀ {v : V} {d : D}, Rep K w v d → D.und n d = true → Rep K (w.cut n) v d
  | _, _, .non, _ => .non
  | _, _, .bl b, _ => .bl b
  | _, _, .int i, _ => .int i
  | _, _, .str s, _ => .str s
  | _, _, .ty n, _ => .ty n
  | _, _, .tup h ho hs, e => .tup h ho (Reps.cut hs (by simpa [D.und] using e))
  | _, _, .ktup h hs, e => .ktup h (Reps.cut hs (by simpa [D.und] using e))
  | _, _, .lst h hl ho hs, e => .lst h (fun z => hl (cut_live z)) ho (Reps.cut hs (by simpa [D.und] using e))
  | _, _, .kscr h ht hs, e => .kscr h ht (Reps.cut hs (by simpa [D.und] using e))
  | _, _, .scr h hl ho hs, e => .scr h (fun z => hl (cut_live z)) ho (Reps.cut hs (by simpa [D.und] using e))
  | _, _, .ins h hl ho hs hc, e => .ins h (fun z => hl (cut_live z)) ho (RepF.cut hs (by simpa [D.und] using e)) hc
  | _, _, .exo h h2 hl hl2 ho ho2 hs hc, e => .exo h h2 (fun z => hl (cut_live z)) (fun z => hl2 (cut_live z)) ho ho2 (RepF.cut hs (by simpa [D.und] using e)) hc
  | _, _, @Rep.ref _ _ a m h, e => .ref (by
    have hm : m < n := by simpa [D.und] using e
    show (w.mu.take n)[m]? = some a
    rw [List.getElem?_take, if_pos hm]
    exact h)
theorem Reps.cut {n : Nat} : ∀ {vs : List V} {ds : List D}, Reps K w vs ds → D.unds n ds = true → Reps K (w.cut n) vs ds
  | _, _, .nil, _ => .nil
  | _, _, .cons r t, e => by
    simp only [D.unds, Bool.and_eq_true] at e
    exact .cons (Rep.cut r e.1) (Reps.cut t e.2)
theorem RepF.cut {n : Nat} : ∀ {vs : List (Str × V)} {ds : List (Str × D)}, RepF K w vs ds → D.undF n ds = true → RepF K (w.cut n) vs ds
  | _, _, .nil, _ => .nil
  | _, _, .cons r t, e => by
    simp only [D.undF, Bool.and_eq_true] at e
    exact .cons (Rep.cut r e.1) (RepF.cut t e.2)
end
theorem cut_ok {n : Nat} (ok : Ok K w) (h : stoBelow n (w.st.take n) = true) : Ok K (w.cut n) := by
  refine ⟨by simp [Wd.cut, ok.len], ok.nd.sublist (List.take_sublist _ _), fun a ha => ok.has a (List.mem_of_mem_take ha), fun a ha => ⟨fun z => (ok.opn a ha).1 (List.mem_of_mem_take z), (ok.opn a ha).2⟩, fun m a o h1 h2 => ?_, ok.tab⟩
  have h1 : (w.mu.take n)[m]? = some a := h1
  have h2 : (w.st.take n)[m]? = some (some o) := h2
  have hb : O.und n o = true := by
    have := List.all_eq_true.mp h _ (List.mem_of_getElem? h2)
    exact this
  rw [List.getElem?_take] at h1 h2
  split at h1
  · rename_i hm
    rw [if_pos hm] at h2
    have r := ok.obj m a o h1 h2
    cases o with
    | lst ds =>
      obtain ⟨vs, q1, q2⟩ := r
      exact ⟨vs, q1, q2.cut hb⟩
    | ins C fs =>
      obtain ⟨dx, fv, q1, q2, hc⟩ := r
      exact ⟨dx, fv, q1, q2.cut hb, hc⟩
  · cases h1
/-- a step, and the new things of the store forgotten -/
theorem cut_step (s : Step w w') (ok : Ok K w) : Step w (w'.cut w.st.length) := by
  obtain ⟨ν, e, hν⟩ := s.ext
  refine ⟨⟨[], ?_, by simp⟩, s.kp, fun n h => ?_, ?_, s.has, s.op⟩
  · show w'.mu.take w.st.length = w.mu ++ []
    rw [e, ← ok.len, List.take_left, List.append_nil]
  · show (w'.st.take w.st.length)[n]? = some none
    rw [List.getElem?_take, if_pos (List.getElem?_eq_some_iff.mp h).1]
    exact s.dead n h
  · show w.st.length ≤ (w'.st.take w.st.length).length
    rw [List.length_take]
    have := s.len
    omega
theorem finR_ok {mu : List Addr} {d : D} {st : Sto} {H : Hp} {v : V} {Q : VK} {E : XK} (ok : Ok K w) (s : Step w ⟨mu, st, H, w.op⟩) (o : Ok K ⟨mu, st, H, w.op⟩) (r : Rep K ⟨mu, st, H, w.op⟩ v d) (p : PR K (Rep K) w (finR w.st.length d st) Q E) : Q v H := by
  unfold finR at p
  by_cases h0 : st.length ≤ w.st.length
  · rw [if_pos h0] at p
    exact p v mu H s o r
  rw [if_neg h0] at p
  by_cases h : (D.und w.st.length d && stoBelow w.st.length (st.take w.st.length)) = true
  · rw [if_pos h] at p
    obtain ⟨h1, h2⟩ := Bool.and_eq_true_iff.mp h
    exact p v (mu.take w.st.length) H (cut_step s ok) (cut_ok o h2) (r.cut h1)
  · rw [if_neg h] at p
    exact p v mu H s o r
theorem finX_ok {mu : List Addr} {x : Exn} {st : Sto} {H : Hp} {c : Value} {dd : Option Addr} {Q : VK} {E : XK} (ok : Ok K w) (s : Step w ⟨mu, st, H, w.op⟩) (o : Ok K ⟨mu, st, H, w.op⟩) (r : RepX K ⟨mu, st, H, w.op⟩ x c dd) (p : PR K (Rep K) w (finX w.st.length x st) Q E) : E c dd H := by
  unfold finX at p
  by_cases h : (D.undF w.st.length x.fs && stoBelow w.st.length (st.take w.st.length)) = true
  · rw [if_pos h] at p
    obtain ⟨h1, h2⟩ := Bool.and_eq_true_iff.mp h
    obtain ⟨q1, qc, d, fv, q2, q3, q4, q6, q5⟩ := r
    exact p c dd (mu.take w.st.length) H (cut_step s ok) (cut_ok o h2) ⟨q1, qc, d, fv, q2, q3, fun z => q4 (cut_live z), q6, q5.cut h1⟩
  · rw [if_neg h] at p
    exact p c dd mu H s o r
end
/-- an expression's value made fast: by value, and what it made in the store is forgotten -/
def eFrz (m : Em) : Em := fun σ st => match m σ st with
  | .ok d st1 => match frzD d st1 with
    | .ok d2 st2 => finR st.length d2 st2
    | .exc x st2 => .exc x st2
    | .bad => .bad
  | .exc x st1 => .exc x st1
  | .bad => .bad
theorem se_frz {X : Cx} {W : WX} {e : Expr} {m : Em} (h : SE X W e m) : SE X W e (eFrz m) :=
  pe_imp h fun σV H Q q => by
    obtain ⟨w, σ, rfl, ok, sl, p⟩ := q
    refine ⟨w, σ, rfl, ok, sl, ?_⟩
    unfold eFrz at p
    cases e1 : m σ w.st with
    | ok d st1 =>
      rw [e1] at p
      intro v mu H1 s1 ok1 r1
      refine frz_ok (w := ⟨mu, st1, H1, w.op⟩) (E := fun _ _ _ => False) ok1 r1 ?_
      show PR _ _ _ (frzD d st1) _ _
      cases e2 : frzD d st1 with
      | ok d2 st2 =>
        simp only [e2] at p
        intro v2 mu2 H2 s2 ok2 r2
        exact finR_ok ok (s1.trans s2 ok) ok2 r2 p
      | exc x st2 =>
        unfold frzD at e2
        split at e2
        · split at e2 <;> cases e2
        · cases e2
      | bad => simp only [e2] at p; exact p.elim
    | exc x st1 => rw [e1] at p; exact p
    | bad => rw [e1] at p; exact p.elim
/-- a def's promise: it does what the mirror does -/
def spM (K : Frag) (n : Nat) (m : List D → Sto → Res D) : Sp := fun vs H Q E => ∃ w ds, w.H = H ∧ Ok K w ∧ Reps K w vs ds ∧ ds.length = n ∧ PR K (Rep K) w (m ds w.st) Q E
theorem spM.len {K : Frag} {n : Nat} {m : List D → Sto → Res D} {vs : List V} {H : Hp} {Q : VK} {E : XK} (h : spM K n m vs H Q E) : vs.length = n := by
  obtain ⟨w, ds, _, _, r, l, _⟩ := h
  rw [r.length, l]
/-- the wish of a def's body -/
abbrev wOf (E : XK) : WX := fun c d _ H => E c d H
theorem start_slots {K : Frag} {w : Wd} {N : List Str} {vs : List V} {ds : List D} (r : Reps K w vs ds) : Slots K w (ds.map some ++ List.replicate (N.length - ds.length) none) (L2.start N vs) := by
  have hl := r.length
  refine ⟨by unfold L2.start; simp [hl], fun i d e => ?_⟩
  unfold L2.start
  by_cases hi : i < ds.length
  · rw [List.getElem?_append_left (by simpa using hi), List.getElem?_map] at e
    cases q : ds[i]? with
    | none => rw [q] at e; cases e
    | some x =>
      rw [q] at e
      have ex : x = d := by simpa using e
      subst ex
      obtain ⟨v, h1, h2⟩ := r.get q
      exact ⟨v, by rw [List.getElem?_append_left (by simp [hl, hi]), List.getElem?_map, h1]; rfl, h2⟩
  · rw [List.getElem?_append_right (by simpa using hi), List.getElem?_replicate] at e
    split at e <;> cases e
theorem body_reads {K : Frag} {N : List Str} {body : Sm} {n : Nat} {vs : List V} {H : Hp} {Q : VK} {E : XK} (h : spM K n (runDef N.length body) vs H Q E) : TSm K body (wOf E) { nx := fun _ H' => Q .non H', rt := Q } (L2.start N vs) H := by
  obtain ⟨w, ds, rfl, ok, r, l, p⟩ := h
  refine ⟨w, _, rfl, ok, start_slots r, ?_⟩
  unfold runDef at p
  cases e : body (ds.map some ++ List.replicate (N.length - ds.length) none) w.st with
  | nx σ st =>
    rw [e] at p
    exact fun σV mu H s o sl => finR_ok ok s o .non p
  | rt d st =>
    rw [e] at p
    exact fun v mu H s o r => finR_ok ok s o r p
  | exc x σ st =>
    rw [e] at p
    exact fun c dd σV mu H s o sl r => finX_ok ok s o r p
  | bk σ st => rw [e] at p; exact p.elim
  | ct σ st => rw [e] at p; exact p.elim
  | bad => rw [e] at p; exact p.elim
section
variable {P : Program} {wd : World} {K : Frag} {mg : Str → Option Value} {base : Heap}
abbrev CXp (P : Program) (wd : World) : CXT := L2.CX P wd
/-- a def of the text is its mirror -/
theorem fn_sim {x qual : Str} {params : Arguments} {body : List Stmt} {scope : Scope} {dvs : List V} {kws : List (Str × V)} {f : Addr} {fd : FuncData} {N ps : List Str} {k : Nat} {m : Sm}
    (F : FunD K x qual params body scope dvs kws f fd) (S : FnScope N ps scope)
    (hb : ∀ (cdv : Value) (A : Around) (outer : List Env) (s : Shared) (H : Hp) (E : XK), Room k (A.deeper (envOfC qual scope s.heap.objs.size f cdv)) →
      SSs (cxOf (CXp P wd) P wd K mg base N qual scope f cdv A outer s H E) (wOf E) body m) : FnOk P wd K mg base (CXp P wd) (k + 1) f fd ps (spM K ps.length (runDef N.length m)) :=
  F.ok S (fun vs H Q E h => h.len) fun cdv A outer s H vs Q E hr h => ⟨_, hb cdv A outer s H E hr, body_reads h⟩
end
/-! ### calls -/
section
variable {X : Cx} {W : WX} {k n : Nat} {f : Addr} {fd : FuncData} {ps : List Str} {x : Str} {p pos : Pos} {e : Expr} {es : List Expr} {ma : Am} {m : List D → Sto → Res D} {dvs : List V} {ds : List Value} {dd : List D}
@[simp] def eCall (m : List D → Sto → Res D) (a : Am) (dd : List D) : Em := fun σ st => (a σ st).bind fun as st1 => m (as ++ dd) st1
def repDflt (K : Frag) (vs : List V) (ds : List D) : Prop := ∀ w, Ok K w → Reps K w vs ds
theorem t_call (hn : ∀ ds st, m ds st ≠ .bad → ds.length = n) (hd : repDflt X.K dvs dd) {σV : L2.St} {H : Hp} {Q : VK} (q : TEm X.K (eCall m ma dd) W σV H Q) : tCallSD (spM X.K n m) dvs (WE W) (TAm X.K ma W) σV H Q := by
  obtain ⟨w, σ, rfl, ok, sl, p⟩ := q
  refine ⟨w, σ, rfl, ok, sl, PR.bind ok p fun ds st vs mu H1 e1 s1 ok1 r1 p1 => ?_⟩
  refine ⟨⟨mu, st, H1, w.op⟩, ds ++ dd, rfl, ok1, r1.append (hd _ ok1), hn _ _ (fun z => by rw [z] at p1; exact p1), p1⟩
theorem se_call (F : FnOk X.prog X.w X.K X.mg X.base (CXp X.prog X.w) k f fd ps (spM X.K n m)) (hr : Room k X.A) (hm : X.mg x = some (.ref f)) (hk : PySem.W.keepIn X.K (.ref f) = true) (hb : Binds X.K fd ps ds) (hd : Vals dvs ds) (tk : Takes X W)
    (hn : ∀ ds st, m ds st ≠ .bad → ds.length = n) (hdd : repDflt X.K dvs dd) (ha : SA X W (e :: es) ma)
    (hg : Gl X x := by rfl) (hdb : (x == ("__debug__" : Str)) = false := by decide) (he : starEach (e :: es) X.env = (false, eval e X.env) :: starEach es X.env := by rfl) (hpl : (backTo pos (starEach es X.env)).any (·.1) = false := by rfl) :
    SE X W (.Call (.Name x p) (e :: es) [] pos) (eCall m ma dd) :=
  pe_imp (pe_callSD (E := WE W) F hr hg hm hk hb hd (fun σ => passAt tk σ) ha hdb he hpl) fun _ _ _ q => t_call hn hdd q
end
end Sim

set_option Elab.async false
set_option linter.all false
set_option maxRecDepth 100000
set_option maxHeartbeats 4000000
/-! lists and tuples, loops -/
namespace Sim
open PySem PySem.Spec PyProof.Rows L2

/-! ### what a value holds -/
def itemsOf (d : D) (st : Sto) : Option (List D) := match d with
  | .tup ds => some ds
  | .lst ds => some ds
  | .scr ds => some ds
  | .ref n => match st[n]? with
    | some (some (.lst ds)) => some ds
    | _ => none
  | _ => none
@[simp] theorem itemsOf_tup (ds : List D) (st : Sto) : itemsOf (.tup ds) st = some ds := rfl
@[simp] theorem itemsOf_scr (ds : List D) (st : Sto) : itemsOf (.scr ds) st = some ds := rfl
@[simp] theorem itemsOf_lst (ds : List D) (st : Sto) : itemsOf (.lst ds) st = some ds := rfl
section
variable {K : Frag} {w : Wd}
theorem items_ok {v : V} {d : D} {ds : List D} (ok : Ok K w) (r : Rep K w v d) (e : itemsOf d w.st = some ds) : ∃ a vs, v = .ref a ∧ (SqL K w.H a vs ∨ SqT K w.H a vs) ∧ Reps K w vs ds := by
  cases r with
  | tup h ho hs => cases e; exact ⟨_, _, rfl, .inr (.inl h), hs⟩
  | ktup h hs => cases e; exact ⟨_, _, rfl, .inr (h _), hs⟩
  | lst h hl ho hs => cases e; exact ⟨_, _, rfl, .inl (.inl (.inl h)), hs⟩
  | scr h hl ho hs => cases e; exact ⟨_, _, rfl, .inl (.inl (.inr ⟨_, h⟩)), hs⟩
  | kscr h ht hs => cases e; exact ⟨_, _, rfl, .inl (h _), hs⟩
  | @ref a n h =>
    unfold itemsOf at e
    cases q : w.st[n]? with
    | none => simp only [q] at e; cases e
    | some o =>
      cases o with
      | none => simp only [q] at e; cases e
      | some o =>
        cases o with
        | ins C fs => simp only [q] at e; cases e
        | lst xs =>
          simp only [q] at e
          cases e
          obtain ⟨vs, h1, h2⟩ := ok.obj n a _ h q
          exact ⟨a, vs, rfl, .inl (.inl (.inl h1)), h2⟩
  | _ => cases e
/-- a list alone (not a tuple, not the script) -/
def listOf (d : D) (st : Sto) : Option (List D) := match d with
  | .tup _ => none
  | .scr _ => none
  | d => itemsOf d st
@[simp] theorem listOf_lst (ds : List D) (st : Sto) : listOf (.lst ds) st = some ds := rfl
theorem list_ok {v : V} {d : D} {ds : List D} (ok : Ok K w) (r : Rep K w v d) (e : listOf d w.st = some ds) : ∃ a vs, v = .ref a ∧ w.H a = some (.lst vs) ∧ Reps K w vs ds := by
  cases r with
  | tup h ho hs => cases e
  | ktup h hs => cases e
  | scr h hl ho hs => cases e
  | kscr h ht hs => cases e
  | lst h hl ho hs => cases e; exact ⟨_, _, rfl, h, hs⟩
  | @ref a n h =>
    have e : itemsOf (.ref n) w.st = some ds := e
    unfold itemsOf at e
    cases q : w.st[n]? with
    | none => simp only [q] at e; cases e
    | some o =>
      cases o with
      | none => simp only [q] at e; cases e
      | some o =>
        cases o with
        | ins C fs => simp only [q] at e; cases e
        | lst xs =>
          simp only [q] at e
          cases e
          obtain ⟨vs, h1, h2⟩ := ok.obj n a _ h q
          exact ⟨a, vs, rfl, h1, h2⟩
  | _ => cases e
theorem Reps.ixN {vs : List V} {ds : List D} {i : Int} {d : D} (r : Reps K w vs ds) (h : atI ds i = some d) : ∃ v, atI vs i = some v ∧ Rep K w v d := by
  unfold atI at h ⊢
  rw [← r.length] at h
  cases e : L2.ixN vs.length i with
  | none => rw [e] at h; cases h
  | some j =>
    rw [e] at h
    exact r.get h
end
/-- x[i] -/
def ixD : D → D → Sto → Res D := fun x y st => match y with
  | .int i => match x with
    | .str z => if z.length ≤ line then (match atI z.cps.toList i with
      | some c => .ok (.str ⟨#[c]⟩) st
      | none => .bad) else .bad
    | x => match itemsOf x st with
      | some ds => (match atI ds i with
        | some d => .ok d st
        | none => .bad)
      | none => .bad
  | _ => .bad
theorem gop_ix {X : Cx} : GOp X.K (rIx X.K) ixD := by
  intro w x y dx dy Q E ok rx ry p
  cases ry with
  | int i =>
    by_cases hs : ∃ z, dx = .str z
    · obtain ⟨z, rfl⟩ := hs
      cases rx
      unfold ixD at p
      simp only at p
      by_cases hz : z.length ≤ line
      · rw [if_pos hz] at p
        cases e : atI z.cps.toList i with
        | none => rw [e] at p; exact p.elim
        | some c =>
          rw [e] at p
          exact .inr (.inr ⟨z, i, c, rfl, rfl, by rw [line_eq]; exact hz, e, PR.ret (R := Rep X.K) ok p (.str _)⟩)
      · rw [if_neg hz] at p; exact p.elim
    · have e0 : ixD dx (.int i) w.st = (match itemsOf dx w.st with
        | some ds => (match atI ds i with
          | some d => .ok d w.st
          | none => .bad)
        | none => .bad) := by
        cases dx with
        | str z => exact absurd ⟨z, rfl⟩ hs
        | _ => rfl
      rw [e0] at p
      cases e1 : itemsOf dx w.st with
      | none => rw [e1] at p; exact p.elim
      | some ds =>
        rw [e1] at p
        simp only at p
        cases e2 : atI ds i with
        | none => rw [e2] at p; exact p.elim
        | some d =>
          rw [e2] at p
          obtain ⟨a, vs, rfl, hq, rs⟩ := items_ok ok rx e1
          obtain ⟨v, e3, r3⟩ := rs.ixN e2
          have fin : Q v w.H := PR.ret (R := Rep X.K) ok p r3
          rcases hq with hq | hq
          · exact .inl ⟨a, vs, i, v, rfl, rfl, hq, e3, fin⟩
          · exact .inr (.inl ⟨a, vs, i, v, rfl, rfl, hq, e3, fin⟩)
  | _ => exact p.elim
section
variable {X : Cx} {W : WX} {a b : Expr} {ma mb : Em} {pos : Pos}
theorem se_ix (ha : SE X W a ma) (hb : SE X W b mb) (hs : PlainIx b := by intro _ _; rfl) : SE X W (.Subscript a b pos) (eBin ixD ma mb) := pe_imp (pe_ix ix_seq ha hb hs) fun _ _ _ q => t_bin gop_ix q
end
/-! ### slices -/
def cutD (xs : List D) (lo hi : Option Int) : List D := (xs.drop (HT.sIx xs.length 0 lo)).take (HT.sIx xs.length xs.length hi - HT.sIx xs.length 0 lo)
theorem Reps.cutV {K : Frag} {w : Wd} {vs : List V} {ds : List D} (r : Reps K w vs ds) (lo hi : Option Int) : Reps K w (L2.cutV vs lo hi) (cutD ds lo hi) := by
  unfold L2.cutV cutD
  rw [r.length]
  exact (r.drop _).take _
/-- a part of a slice -/
@[simp] def pNone : Sl → Sto → Res (Option Int) := fun _ st => .ok none st
@[simp] def pSome (m : Em) : Sl → Sto → Res (Option Int) := fun σ st => (m σ st).bind fun d st1 => match d with
  | .int i => .ok (some i) st1
  | _ => .bad
abbrev Pm := Sl → Sto → Res (Option Int)
def TPm (K : Frag) (m : Pm) (W : WX) : L2.TO := fun σV H Q => ∃ w σ, w.H = H ∧ Ok K w ∧ Slots K w σ σV ∧ PR K (fun _ b c => b = c) w (m σ w.st) Q (xk W σV)
def SP (X : Cx) (W : WX) (e : Option Expr) (m : Pm) : Prop := PO X e (TPm X.K m W)
section
variable {X : Cx} {W : WX} {e : Expr} {m : Em} {lo hi : Option Expr} {ml mh : Pm} {pos p2 : Pos}
theorem sp_none : SP X W none pNone := ⟨fun pins s σV H Q I q => by
  obtain ⟨w, σ, rfl, ok, sl, p⟩ := q
  exact po_none.run pins s σV _ Q I (PR.ret (R := fun _ b c => b = c) ok p rfl)⟩
theorem sp_some (h : SE X W e m) : SP X W (some e) (pSome m) := ⟨fun pins s σV H Q I q => by
  refine (po_some h).run pins s σV H Q I ?_
  obtain ⟨w, σ, rfl, ok, sl, p⟩ := q
  refine ⟨w, σ, rfl, ok, sl, PR.bind ok p fun d st v mu H1 e1 s1 ok1 r1 p1 => ?_⟩
  cases r1 with
  | int i => exact ⟨i, rfl, PR.ret (R := fun _ b c => b = c) ok1 p1 rfl⟩
  | _ => exact p1.elim⟩
/-- x[lo:hi] of a list, a tuple, a text -/
def slD (k : Bool) (x : D) (lo hi : Option Int) (st : Sto) : Res D := match x with
  | .str z => if z.length ≤ line then .ok (.str (cutS z lo hi)) st else .bad
  | .tup ds => .ok (.tup (cutD ds lo hi)) st
  | x => match itemsOf x st with
    | some ds => mkL k (cutD ds lo hi) st
    | none => .bad
@[simp] def eSl (k : Bool) (a : Em) (l h : Pm) : Em := fun σ st => (a σ st).bind fun x st1 => (l σ st1).bind fun lo st2 => (h σ st2).bind fun hi st3 => slD k x lo hi st3
theorem cutD_all {ds : List D} {lo hi : Option Int} (h : HT.sIx ds.length 0 lo = 0 ∧ HT.sIx ds.length ds.length hi = ds.length) : cutD ds lo hi = ds := by
  unfold cutD
  rw [h.1, h.2]
  simp
theorem slD_ok {k : Bool} {w : Wd} {v : V} {d : D} {lo hi : Option Int} {Q : VK} {E : XK} (ok : Ok X.K w) (r : Rep X.K w v d) (p : PR X.K (Rep X.K) w (slD k d lo hi w.st) Q E) : rSlL X.K v lo hi w.H Q ∨ rSlA X.K v lo hi w.H Q ∨ rSlS v lo hi w.H Q := by
  have tupCase : ∀ {a : Addr} {vs : List V} {ds : List D}, SqT X.K w.H a vs → Reps X.K w vs ds → Rep X.K w (.ref a) (.tup ds) → PR X.K (Rep X.K) w (.ok (.tup (cutD ds lo hi)) w.st) Q E → rSlA X.K (.ref a) lo hi w.H Q := by
    intro a vs ds hq rs r p
    refine ⟨a, vs, rfl, hq, fun hw => ?_, fun hw q hn => ?_⟩
    · rw [rs.length] at hw
      rw [cutD_all hw] at p
      exact PR.ret (R := Rep X.K) ok p r
    · exact PR.new ok hn p (rep_new_tup ok hn (rs.cutV lo hi))
  cases r with
  | str z =>
    unfold slD at p
    simp only at p
    by_cases hz : z.length ≤ line
    · rw [if_pos hz] at p
      exact .inr (.inr ⟨z, rfl, by rw [line_eq]; exact hz, PR.ret (R := Rep X.K) ok p (.str _)⟩)
    · rw [if_neg hz] at p; exact p.elim
  | tup h ho hs => exact .inr (.inl (tupCase (.inl h) hs (.tup h ho hs) p))
  | ktup h hs => exact .inr (.inl (tupCase (h _) hs (.ktup h hs) p))
  | @lst a vs ds h hl ho hs => exact .inl ⟨a, vs, rfl, .inl (.inl h), (mkL_ok ok p (hs.cutV lo hi)).2⟩
  | @scr a o vs ds h hl ho hs => exact .inl ⟨a, vs, rfl, .inl (.inr ⟨o, h⟩), (mkL_ok ok p (hs.cutV lo hi)).2⟩
  | @kscr a vs ds h ht hs => exact .inl ⟨a, vs, rfl, h _, (mkL_ok ok p (hs.cutV lo hi)).2⟩
  | @ref a n h =>
    have e0 : slD k (.ref n) lo hi w.st = (match itemsOf (.ref n) w.st with
      | some ds => mkL k (cutD ds lo hi) w.st
      | none => .bad) := rfl
    rw [e0] at p
    cases e1 : itemsOf (.ref n) w.st with
    | none => rw [e1] at p; exact p.elim
    | some ds =>
      rw [e1] at p
      obtain ⟨b, vs, e2, hq, rs⟩ := list_ok (d := .ref n) ok (.ref h) e1
      cases e2
      exact .inl ⟨a, vs, rfl, .inl (.inl hq), (mkL_ok ok p (rs.cutV lo hi)).2⟩
  | _ => exact p.elim
theorem se_sl {k : Bool} (he : SE X W e m) (hl : SP X W lo ml) (hh : SP X W hi mh) : SE X W (.Subscript e (.Slice lo hi none p2) pos) (eSl k m ml mh) :=
  pe_imp (pe_slice (sl_list.or (sl_tupA.or sl_str)) he hl hh) fun σV H Q q => by
    obtain ⟨w, σ, rfl, ok, sl, p⟩ := q
    refine ⟨w, σ, rfl, ok, sl, PR.bind ok p fun d st v mu H1 e1 s1 ok1 r1 p1 => ?_⟩
    refine ⟨⟨mu, st, H1, w.op⟩, σ, rfl, ok1, sl.step s1 ok, PR.bind ok1 p1 fun l st2 l2 mu2 H2 e2 s2 ok2 r2 p2 => ?_⟩
    subst r2
    refine ⟨⟨mu2, st2, H2, w.op⟩, σ, rfl, ok2, (sl.step s1 ok).step s2 ok1, PR.bind ok2 p2 fun h st3 h2 mu3 H3 e3 s3 ok3 r3 p3 => ?_⟩
    subst r3
    exact slD_ok (w := ⟨mu3, st3, H3, w.op⟩) ok3 ((r1.step s2 ok1).step s3 ok2) p3
end
/-! ### targets -/
abbrev Gm := D → Sl → Option Sl
abbrev Gms := List D → Sl → Option Sl
def SG (X : Cx) (tg : Expr) (gm : Gm) : Prop := ∃ g, PG X tg g ∧ ∀ (w : Wd) (v : V) (d : D) (σ σ' : Sl) (σV : L2.St) (Q : L2.St → Hp → Prop), Ok X.K w → Rep X.K w v d → Slots X.K w σ σV → gm d σ = some σ' → (∀ σV', Slots X.K w σ' σV' → Q σV' w.H) → g v σV w.H Q
def SGs (X : Cx) (tgs : List Expr) (gm : Gms) : Prop := ∃ g, PGs X tgs g ∧ ∀ (w : Wd) (vs : List V) (ds : List D) (σ σ' : Sl) (σV : L2.St) (Q : L2.St → Hp → Prop), Ok X.K w → Reps X.K w vs ds → Slots X.K w σ σV → gm ds σ = some σ' → (∀ σV', Slots X.K w σ' σV' → Q σV' w.H) → g vs σV w.H Q
@[simp] def gN (i : Nat) : Gm := fun d σ => some (σ.set i (some d))
@[simp] def gT (n : Nat) (gs : Gms) : Gm := fun d σ => match d with
  | .tup ds => if ds.length = n then gs ds σ else none
  | _ => none
@[simp] def gsNil : Gms := fun ds σ => match ds with
  | [] => some σ
  | _ => none
@[simp] def gsCons (g : Gm) (gs : Gms) : Gms := fun ds σ => match ds with
  | d :: ds => match g d σ with
    | some σ1 => gs ds σ1
    | none => none
  | [] => none
section
variable {X : Cx}
theorem sg_name {i : Nat} {x : Str} {pos : Pos} (hN : X.N.Nodup) (hi : X.N[i]? = some x) (hx : Loc X.env.scope x) (hf : X.fn x = true ∨ X.env.scope.names.lookup x = some .local := by first | exact .inl rfl | exact .inr rfl | assumption) : SG X (.Name x pos) (gN i) :=
  ⟨gName i, pg_name hN hi hx hf, fun w v d σ σ' σV Q ok r sl e k => by
    cases e
    exact k _ (sl.set r i)⟩
theorem sgs_nil : SGs X [] gsNil := ⟨_, pgs_nil, fun w vs ds σ σ' σV Q ok r sl e k => by
  cases r with
  | nil => cases e; exact ⟨rfl, k _ sl⟩
  | cons _ _ => cases e⟩
theorem sgs_cons {e : Expr} {es : List Expr} {g : Gm} {gs : Gms} (h1 : SG X e g) (h2 : SGs X es gs) (hs : (assignEach (e :: es) X.env).map (·.2) = assign e X.env :: (assignEach es X.env).map (·.2) := by rfl) : SGs X (e :: es) (gsCons g gs) := by
  obtain ⟨g1, p1, k1⟩ := h1
  obtain ⟨g2, p2, k2⟩ := h2
  refine ⟨_, pgs_cons p1 p2 hs, fun w vs ds σ σ' σV Q ok r sl e k => ?_⟩
  cases r with
  | nil => cases e
  | @cons v d vs ds r rs =>
    simp only [gsCons] at e
    cases q : g d σ with
    | none => rw [q] at e; cases e
    | some σ1 =>
      rw [q] at e
      exact ⟨v, vs, rfl, k1 w v d σ σ1 σV _ ok r sl q fun σV1 sl1 => k2 w vs ds σ1 σ' σV1 Q ok rs sl1 e k⟩
theorem sg_tup {es : List Expr} {k : Nat} {gs : Gms} {n : Nat} {pos : Pos} (hc : X.calm = true) (h : SGs X es gs) (hn : (assignEach es X.env).length = n := by rfl) (hst : (assignEach es X.env).findIdx? (·.1) = none := by rfl) : SG X (.Tuple es k pos) (gT n gs) := by
  obtain ⟨g, p, kk⟩ := h
  refine ⟨_, pg_tup hc p hn hst, fun w v d σ σ' σV Q ok r sl e k => ?_⟩
  cases r with
  | tup h ho hs =>
    simp only [gT] at e
    split at e
    · rename_i hl
      exact ⟨_, _, rfl, .inl h, by rw [hs.length]; exact hl, kk w _ _ σ σ' σV Q ok hs sl e k⟩
    · cases e
  | ktup h hs =>
    simp only [gT] at e
    split at e
    · rename_i hl
      exact ⟨_, _, rfl, h _, by rw [hs.length]; exact hl, kk w _ _ σ σ' σV Q ok hs sl e k⟩
    · cases e
  | _ => cases e
/-- target = value -/
@[simp] def sAsg (m : Em) (g : Gm) : Sm := fun σ st => (m σ st).toRS σ fun d st1 => match g d σ with
  | some σ' => .nx σ' st1
  | none => .bad
theorem ss_asg {W : WX} {tg e : Expr} {m : Em} {g : Gm} {pos : Pos} (he : SE X W e m) (hg : SG X tg g) (hs : swapsWithSole [tg] e pos.line X.env = pure false := by rfl) (hw : swappedStores [tg] e X.env = pure none := by rfl)
    (h1 : (assignEach [tg] X.env).map (·.2) = [assign tg X.env] := by rfl) : SS X W (.Assign [tg] e pos) (sAsg m g) := by
  obtain ⟨g1, p1, k1⟩ := hg
  refine ps_imp (ps_asg he p1 hs hw h1) fun D σV H q => ?_
  obtain ⟨w, σ, rfl, ok, sl, p⟩ := q
  refine ⟨w, σ, rfl, ok, sl, PSr.toR ok sl p fun d st v mu H1 e1 s1 ok1 r1 p1 => ?_⟩
  cases q : g d σ with
  | none => rw [q] at p1; exact p1.elim
  | some σ' =>
    rw [q] at p1
    exact k1 ⟨mu, st, H1, w.op⟩ v d σ σ' σV _ ok1 r1 (sl.step s1 ok) q fun σV' sl' => PSr.ret (w := ⟨mu, st, H1, w.op⟩) ok1 p1 sl'
/-- a, b = x, y of plain local names -/
@[simp] def sPar (i j : Nat) (a b : Em) : Sm := fun σ st => (a σ st).toRS σ fun x st1 => (b σ st1).toRS σ fun y st2 => .nx ((σ.set i (some x)).set j (some y)) st2
theorem ss_par {W : WX} {i j : Nat} {x y : Str} {a b : Expr} {ma mb : Em} {px py pt pos : Pos} {kt k2 pt2} (hc : X.calm = true) (hN : X.N.Nodup) (hi : X.N[i]? = some x) (hj : X.N[j]? = some y) (hij : i ≠ j)
    (hx : X.env.scope.names.lookup x = some .local) (hy : X.env.scope.names.lookup y = some .local) (ha : SE X W a ma) (hb : SE X W b mb)
    (hw : swappedStores [.Tuple [.Name x px, .Name y py] kt pt] (.Tuple [a, b] k2 pt2) X.env = pure (some [x, y]))
    (hsa : starEach [a, b] X.env = (false, eval a X.env) :: starEach [b] X.env := by rfl) (hsb : starEach [b] X.env = (false, eval b X.env) :: starEach [] X.env := by rfl)
    (hs : swapsWithSole [.Tuple [.Name x px, .Name y py] kt pt] (.Tuple [a, b] k2 pt2) pos.line X.env = pure false := by rfl) :
    SS X W (.Assign [.Tuple [.Name x px, .Name y py] kt pt] (.Tuple [a, b] k2 pt2) pos) (sPar i j ma mb) := by
  refine ps_imp (ps_par hc hN hi hj hij hx hy (sa_cons ha (sa_cons hb sa_nil hsb) hsa) hw hs) fun D σV H q => ?_
  obtain ⟨w, σ, rfl, ok, sl, p⟩ := q
  refine ⟨w, σ, rfl, ok, sl, ?_⟩
  simp only [sPar] at p
  simp only [aCons]
  cases e1 : ma σ w.st with
  | bad => rw [e1] at p; exact p.elim
  | exc x st => rw [e1] at p; exact fun c dd mu H t o q => p c dd σV mu H t o (sl.step t ok) q
  | ok d1 st1 =>
    rw [e1] at p
    simp only [Res.toRS, Res.bind] at p ⊢
    cases e2 : mb σ st1 with
    | bad => rw [e2] at p; exact p.elim
    | exc x st => rw [e2] at p; exact fun c dd mu H t o q => p c dd σV mu H t o (sl.step t ok) q
    | ok d2 st2 =>
      rw [e2] at p
      simp only [aNil, Res.bind]
      intro vs mu H1 s1 ok1 r1
      cases r1 with
      | cons q1 t1 =>
        cases t1 with
        | cons q2 t2 =>
          cases t2
          exact ⟨_, _, rfl, p _ mu H1 s1 ok1 (((sl.step s1 ok).set q1 i).set q2 j)⟩
end
end Sim

set_option Elab.async false
set_option linter.all false
set_option maxRecDepth 100000
set_option maxHeartbeats 4000000
/-! loops -/
namespace Sim
open PySem PySem.Spec PyProof.Rows L2 RT RZ

/-- an iterator that hands out these items -/
def Wk (K : Frag) (w0 : Wd) (J : It) (items : List D) : Prop := ∃ (G : Hp → Prop) (Y : Nat → Hp → V → Hp → Prop), Walk J items.length G Y ∧ (∀ w, Step w0 w → Ok K w → G w.H) ∧
  ∀ i d w x H', items[i]? = some d → Step w0 w → Ok K w → Y i w.H x H' → ∃ w' : Wd, w'.H = H' ∧ w'.st = w.st ∧ w'.op = w.op ∧ Step w w' ∧ Ok K w' ∧ Rep K w' x d
abbrev Im := Sl → Sto → Res (List D)
def TIm (K : Frag) (m : Im) (W : WX) : TI := fun σV H R => ∃ w σ, w.H = H ∧ Ok K w ∧ Slots K w σ σV ∧ PR K (fun w J items => Wk K w J items) w (m σ w.st) R (xk W σV)
def SI (X : Cx) (W : WX) (tg iter : Expr) (m : Im) : Prop := PI X tg iter (TIm X.K m W)
theorem pi_imp {X : Cx} {tg e : Expr} {t t' : TI} (h : PI X tg e t) (i : ∀ σ H Q, t' σ H Q → t σ H Q) : PI X tg e t' := ⟨fun pins s σ H R I q => h.run pins s σ H R I (i σ H R q)⟩
section
variable {X : Cx} {W : WX} {tg : Expr} {K : Frag}
/-! ### what is walked -/
def iSeq (K : Frag) (tl : TE) : TI := fun σ H R => tl σ H fun x H1 => ∃ a, x = .ref a ∧ ((∃ xs, SqL K H1 a xs ∧ R (Itl K a) H1) ∨ (∃ xs, SqT K H1 a xs ∧ R (Itt K a) H1))
theorem pi_seq {l : Expr} {tl : TE} (hl : PE X l tl) : PI X tg l (iSeq X.K tl) := by
  refine ⟨fun pins s σ H R I h => ?_⟩
  refine thn (hl.run pins s σ H _ I h) fun v s1 ⟨x, H1, I1, r1, q1⟩ => ?_
  obtain ⟨a, e, q⟩ := q1
  subst e
  cases r1
  rcases q with ⟨xs, hq, q⟩ | ⟨xs, hq, q⟩
  · obtain ⟨its, rv, p, hz⟩ := I1.list hq
    refine wpAny_pyIter_list p.isList ?_
    refine ⟨s1.heap.objs.size, [s1.heap.objs.size], _, _, H1, rfl, I1.kept (t' := s1.toks) fun b o e => Heap.get?_push_of_some _ e, turn_list a _, ⟨_, Heap.get?_push_size _ rfl, rfl, rfl⟩, fun b hb => ?_, q⟩
    have e : b = s1.heap.objs.size := by simpa using hb
    subst e
    exact I1.fpOk (Nat.le_refl _) (I1.hok.fresh (Nat.le_refl _))
  · obtain ⟨its, rv, p, hz⟩ := I1.tuple hq
    refine wpAny_pyIter_tuple (show s1.heap.IsTuple a its.toArray from p) ?_
    refine ⟨s1.heap.objs.size, [s1.heap.objs.size], _, _, H1, rfl, I1.kept (t' := s1.toks) fun b o e => Heap.get?_push_of_some _ e, turn_tuple a _, ⟨_, Heap.get?_push_size _ rfl, rfl, rfl⟩, fun b hb => ?_, q⟩
    have e : b = s1.heap.objs.size := by simpa using hb
    subst e
    exact I1.fpOk (Nat.le_refl _) (I1.hok.fresh (Nat.le_refl _))
/-- items by value alone -/
def valItems (d : D) : Option (List D) := match d with
  | .tup ds => some ds
  | .lst ds => some ds
  | .scr ds => some ds
  | _ => none
@[simp] theorem valItems_scr (ds : List D) : valItems (.scr ds) = some ds := rfl
@[simp] theorem valItems_tup (ds : List D) : valItems (.tup ds) = some ds := rfl
@[simp] theorem valItems_lst (ds : List D) : valItems (.lst ds) = some ds := rfl
@[simp] def iVal (m : Em) : Im := fun σ st => (m σ st).bind fun d st1 => match valItems d with
  | some ds => .ok ds st1
  | none => .bad
theorem wk_same {w0 : Wd} {J : It} {items : List D} {vs : List V} {G : Hp → Prop} (hw : Walk J vs.length G (YAt vs)) (ok : Ok K w0) (rs : Reps K w0 vs items) (hG : ∀ w, Step w0 w → Ok K w → G w.H) : Wk K w0 J items := by
  refine ⟨G, YAt vs, by rw [← rs.length]; exact hw, hG, fun i d w x H' hi s o y => ?_⟩
  obtain ⟨e1, e2⟩ := y
  obtain ⟨v, h1, h2⟩ := rs.get hi
  rw [e2] at h1; cases h1
  exact ⟨w, e1.symm, rfl, rfl, .refl _, o, h2.step s ok⟩
theorem si_val {e : Expr} {m : Em} (h : SE X W e m) : SI X W tg e (iVal m) := pi_imp (pi_seq h) fun σV H R q => by
  obtain ⟨w, σ, rfl, ok, sl, p⟩ := q
  refine ⟨w, σ, rfl, ok, sl, PR.bind ok p fun d st v mu H1 e1 s1 ok1 r1 p1 => ?_⟩
  cases r1 with
  | @tup a vs ds h ho hs => exact ⟨a, rfl, .inr ⟨vs, .inl h, PR.ret (w := ⟨mu, st, H1, w.op⟩) (R := fun w J items => Wk X.K w J items) ok1 p1 (wk_same (K := X.K) walk_tup ok1 hs fun w' s o => .inl (s.rdT ok1 h))⟩⟩
  | @ktup a vs ds h hs => exact ⟨a, rfl, .inr ⟨vs, h _, PR.ret (w := ⟨mu, st, H1, w.op⟩) (R := fun w J items => Wk X.K w J items) ok1 p1 (wk_same (K := X.K) walk_tup ok1 hs fun w' s o => h _)⟩⟩
  | @lst a vs ds h hl ho hs => exact ⟨a, rfl, .inl ⟨vs, .inl (.inl h), PR.ret (w := ⟨mu, st, H1, w.op⟩) (R := fun w J items => Wk X.K w J items) ok1 p1 (wk_same (K := X.K) walk_list ok1 hs fun w' s o => .inl (.inl (s.keep _ _ h hl)))⟩⟩
  | @kscr a vs ds h ht hs => exact ⟨a, rfl, .inl ⟨vs, h _, PR.ret (w := ⟨mu, st, H1, w.op⟩) (R := fun w J items => Wk X.K w J items) ok1 p1 (wk_same (K := X.K) walk_list ok1 hs fun w' s _ => h _)⟩⟩
  | @scr a o vs ds h hl ho hs => exact ⟨a, rfl, .inl ⟨vs, .inl (.inr ⟨o, h⟩), PR.ret (w := ⟨mu, st, H1, w.op⟩) (R := fun w J items => Wk X.K w J items) ok1 p1 (wk_same (K := X.K) walk_list ok1 hs fun w' s _ => .inl (.inr ⟨o, s.keep _ _ h hl⟩))⟩⟩
  | _ => exact p1.elim
/-- lo, lo + 1, .. -/
def intsL (lo : Int) (n : Nat) : List D := (List.range n).map fun i => .int (lo + (i : Nat))
theorem intsL_get {lo : Int} {n i : Nat} {d : D} (h : (intsL lo n)[i]? = some d) : i < n ∧ d = .int (lo + (i : Nat)) := by
  unfold intsL at h
  rw [List.getElem?_map] at h
  cases q : (List.range n)[i]? with
  | none => rw [q] at h; cases h
  | some j =>
    rw [q] at h
    obtain ⟨h1, h2⟩ := List.getElem?_eq_some_iff.mp q
    simp at h1 h2 h
    subst h2
    exact ⟨h1, h.symm⟩
theorem intsL_len (lo : Int) (n : Nat) : (intsL lo n).length = n := by simp [intsL]
theorem wk_range {w0 : Wd} {lo : Int} {n : Nat} : Wk K w0 (Itr lo n) (intsL lo n) := by
  refine ⟨fun _ => True, _, by rw [intsL_len]; exact walk_range, fun _ _ _ => trivial, fun i d w x H' hi s o y => ?_⟩
  obtain ⟨e1, e2⟩ := y
  obtain ⟨_, rfl⟩ := intsL_get hi
  subst e2
  exact ⟨w, e1.symm, rfl, rfl, .refl _, o, .int _⟩
def big (i : Int) : Bool := decide (-(2 ^ 62) ≤ i) && decide (i < 2 ^ 62)
@[simp] def iRange1 (m : Am) : Im := fun σ st => (m σ st).bind fun ds st1 => match ds with
  | [.int j] => if big j = true then .ok (intsL 0 j.toNat) st1 else .bad
  | _ => .bad
@[simp] def iRange2 (m : Am) : Im := fun σ st => (m σ st).bind fun ds st1 => match ds with
  | [.int i, .int j] => if (big i && big j) = true then .ok (intsL i (j - i).toNat) st1 else .bad
  | _ => .bad
theorem si_range1 {a : Expr} {m : Am} {p pos : Pos} (hm : X.mg "range" = none) (ha : SA X W [a] m) (hg : Gl X "range" := by rfl) (hs : starEach [a] X.env = [(false, eval a X.env)] := by rfl) : SI X W tg (.Call (.Name "range" p) [a] [] pos) (iRange1 m) :=
  pi_imp (pi_range1 hg hm ha hs) fun σV H R q => by
    obtain ⟨w, σ, rfl, ok, sl, p⟩ := q
    refine ⟨w, σ, rfl, ok, sl, PR.bind ok p fun ds st vs mu H1 e1 s1 ok1 r1 p1 => ?_⟩
    cases r1 with
    | nil => exact p1.elim
    | cons r t =>
      cases t with
      | cons _ _ => cases r <;> exact p1.elim
      | nil =>
        cases r with
        | int j =>
          simp only at p1
          by_cases hb : big j = true
          · rw [if_pos hb] at p1
            unfold big at hb
            simp only [Bool.and_eq_true, decide_eq_true_eq] at hb
            exact ⟨j, rfl, hb.1, hb.2, PR.ret (w := ⟨mu, st, H1, w.op⟩) (R := fun w J items => Wk X.K w J items) ok1 p1 wk_range⟩
          · rw [if_neg hb] at p1; exact p1.elim
        | _ => exact p1.elim
theorem si_range2 {a b : Expr} {m : Am} {p pos : Pos} (hm : X.mg "range" = none) (ha : SA X W [a, b] m) (hg : Gl X "range" := by rfl) (hs : starEach [a, b] X.env = [(false, eval a X.env), (false, eval b X.env)] := by rfl) (hs2 : starEach [b] X.env = [(false, eval b X.env)] := by rfl) : SI X W tg (.Call (.Name "range" p) [a, b] [] pos) (iRange2 m) :=
  pi_imp (pi_range2 hg hm ha hs hs2) fun σV H R q => by
    obtain ⟨w, σ, rfl, ok, sl, p⟩ := q
    refine ⟨w, σ, rfl, ok, sl, PR.bind ok p fun ds st vs mu H1 e1 s1 ok1 r1 p1 => ?_⟩
    by_cases hsh : ∃ i j, ds = [.int i, .int j]
    · obtain ⟨i, j, rfl⟩ := hsh
      cases r1 with
      | cons r t =>
        cases t with
        | cons r2 t2 =>
          cases t2
          cases r
          cases r2
          simp only at p1
          by_cases hb : (big i && big j) = true
          · rw [if_pos hb] at p1
            unfold big at hb
            simp only [Bool.and_eq_true, decide_eq_true_eq] at hb
            exact ⟨i, j, rfl, ⟨hb.1.1, hb.1.2, hb.2.1, hb.2.2⟩, PR.ret (w := ⟨mu, st, H1, w.op⟩) (R := fun w J items => Wk X.K w J items) ok1 p1 wk_range⟩
          · rw [if_neg hb] at p1; exact p1.elim
    · exfalso
      revert p1
      split <;> first | (rename_i i j; exact fun _ => hsh ⟨i, j, rfl⟩) | exact fun z => z
/-- new pairs -/
theorem wk_pairs {w0 : Wd} {J : It} {n : Nat} {G : Hp → Prop} {xs ys : Nat → Option V} {items : List D} (hn : items.length = n) (hw : Walk J n G (YPair xs ys)) (hG : ∀ w, Step w0 w → Ok K w → G w.H)
    (hi : ∀ i d x y, items[i]? = some d → xs i = some x → ys i = some y → ∃ a b, d = .tup [a, b] ∧ ∀ w, Step w0 w → Ok K w → Rep K w x a ∧ Rep K w y b) : Wk K w0 J items := by
  refine ⟨G, _, by rw [hn]; exact hw, hG, fun i d w v H' hd s o y => ?_⟩
  obtain ⟨T, x, y, rfl, hT, rfl, h1, h2⟩ := y
  obtain ⟨a, b, rfl, h3⟩ := hi i d x y hd h1 h2
  obtain ⟨r1, r2⟩ := h3 w s o
  exact ⟨w.put T (.tup [x, y]), rfl, rfl, rfl, put_step hT, put_ok o hT, rep_new_tup o hT (.cons r1 (.cons r2 .nil))⟩
def enumD : Nat → List D → List D
  | _, [] => []
  | n, d :: ds => .tup [.int (n : Nat), d] :: enumD (n + 1) ds
theorem enumD_len : ∀ (n : Nat) (ds : List D), (enumD n ds).length = ds.length
  | _, [] => rfl
  | n, _ :: ds => congrArg Nat.succ (enumD_len (n + 1) ds)
theorem enumD_get : ∀ (n : Nat) (ds : List D) (i : Nat) (d : D), (enumD n ds)[i]? = some d → ∃ e, ds[i]? = some e ∧ d = .tup [.int ((n + i : Nat) : Int), e]
  | _, [], i, d, h => by simp [enumD] at h
  | n, e :: ds, 0, d, h => by
    have h : (D.tup [.int (n : Nat), e]) = d := by simpa [enumD] using h
    exact ⟨e, rfl, h.symm⟩
  | n, e :: ds, i + 1, d, h => by
    obtain ⟨x, h1, h2⟩ := enumD_get (n + 1) ds i d (by simpa [enumD] using h)
    exact ⟨x, by simpa using h1, by rw [h2, show n + 1 + i = n + (i + 1) by omega]⟩
def zipD : List D → List D → List D
  | a :: as, b :: bs => .tup [a, b] :: zipD as bs
  | _, _ => []
theorem zipD_len : ∀ (as bs : List D), (zipD as bs).length = min as.length bs.length
  | [], _ => by simp [zipD]
  | _ :: _, [] => by simp [zipD]
  | _ :: as, _ :: bs => by
    simp only [zipD, List.length_cons, zipD_len as bs]
    omega
theorem zipD_get : ∀ (as bs : List D) (i : Nat) (d : D), (zipD as bs)[i]? = some d → ∃ a b, as[i]? = some a ∧ bs[i]? = some b ∧ d = .tup [a, b]
  | [], _, i, d, h => by simp [zipD] at h
  | _ :: _, [], i, d, h => by simp [zipD] at h
  | a :: as, b :: bs, 0, d, h => by
    have h : (D.tup [a, b]) = d := by simpa [zipD] using h
    exact ⟨a, b, rfl, rfl, h.symm⟩
  | a :: as, b :: bs, i + 1, d, h => by
    obtain ⟨x, y, h1, h2, h3⟩ := zipD_get as bs i d (by simpa [zipD] using h)
    exact ⟨x, y, by simpa using h1, by simpa using h2, h3⟩
@[simp] def iEnumM (m : Am) : Im := fun σ st => (m σ st).bind fun ds st1 => match ds with
  | [.lst xs] => .ok (enumD 0 xs) st1
  | _ => .bad
theorem si_enum {e : Expr} {m : Am} {p pos tpos : Pos} {elts : List Expr} {kk : Nat} (hm : X.mg "enumerate" = none) (ha : SA X W [e] m) (hg : Gl X "enumerate" := by rfl) (hs : starEach [e] X.env = [(false, eval e X.env)] := by rfl) :
    SI X W (.Tuple elts kk tpos) (.Call (.Name "enumerate" p) [e] [] pos) (iEnumM m) :=
  pi_imp (pi_enum hg hm ha hs) fun σV H R q => by
    obtain ⟨w, σ, rfl, ok, sl, p⟩ := q
    refine ⟨w, σ, rfl, ok, sl, PR.bind ok p fun ds st vs mu H1 e1 s1 ok1 r1 p1 => ?_⟩
    by_cases hsh : ∃ xs, ds = [.lst xs]
    · obtain ⟨xs, rfl⟩ := hsh
      cases r1 with
      | cons r t =>
        cases t
        cases r with
        | @lst a us _ h hl ho hs =>
          refine ⟨a, us, rfl, .inl (.inl h), PR.ret (w := ⟨mu, st, H1, w.op⟩) (R := fun w J items => Wk X.K w J items) ok1 p1 (wk_pairs (by rw [enumD_len, hs.length]) walk_enum (fun w' s o => .inl (.inl (s.keep _ _ h hl))) fun i d x y hd hx hy => ?_)⟩
          obtain ⟨e, h1, h2⟩ := enumD_get 0 xs i d hd
          obtain ⟨u, h3, h4⟩ := hs.get h1
          rw [h3] at hy; cases hy
          cases hx
          refine ⟨.int (i : Nat), e, by rw [h2, Nat.zero_add], fun w' s o => ⟨.int _, h4.step s ok1⟩⟩
    · exfalso
      revert p1
      split <;> first | (rename_i xs; exact fun _ => hsh ⟨xs, rfl⟩) | exact fun z => z
@[simp] def iZipM (m : Am) : Im := fun σ st => (m σ st).bind fun ds st1 => match ds with
  | [.lst xs, .lst ys] => .ok (zipD xs ys) st1
  | [.tup xs, .tup ys] => .ok (zipD xs ys) st1
  | _ => .bad
theorem walk_zipT {a b : Addr} {xs ys : List V} {n : Nat} (hn : n = min xs.length ys.length) : Walk (ItzT K a b) n (fun H => SqT K H a xs ∧ SqT K H b ys) (YPair (fun i => xs[i]?) (fun i => ys[i]?)) := by
  subst hn
  refine ⟨fun i _ hi q => ?_, fun _ q => ⟨xs, ys, q.1, q.2, by omega⟩, fun i H v H' _ q y => ?_⟩
  · have h1 : i < xs.length := by omega
    have h2 : i < ys.length := by omega
    exact ⟨xs, ys, xs[i], ys[i], q.1, q.2, by simp [h1], by simp [h2]⟩
  · obtain ⟨T, x, z, h1, h2, h3, h4, h5⟩ := y
    exact ⟨T, x, z, h1, h2, h3, h4 xs q.1, h5 ys q.2⟩
/-- a tuple's contents -/
theorem tup_ok {w : Wd} {v : V} {ds : List D} (r : Rep K w v (.tup ds)) (ok : Ok K w) : ∃ a vs, v = .ref a ∧ Reps K w vs ds ∧ ∀ w', Step w w' → SqT K w'.H a vs := by
  cases r with
  | tup h ho hs => exact ⟨_, _, rfl, hs, fun w' s => .inl (s.rdT ok h)⟩
  | ktup h hs => exact ⟨_, _, rfl, hs, fun w' s => h _⟩
theorem zip_items {w1 : Wd} {us vs : List V} {xs ys : List D} (ok1 : Ok K w1) (r1 : Reps K w1 us xs) (r2 : Reps K w1 vs ys) (i : Nat) (d : D) (x y : V) (hd : (zipD xs ys)[i]? = some d) (hx : us[i]? = some x) (hy : vs[i]? = some y) :
    ∃ a b, d = .tup [a, b] ∧ ∀ w, Step w1 w → Ok K w → Rep K w x a ∧ Rep K w y b := by
  obtain ⟨a, b, h1, h2, h3⟩ := zipD_get xs ys i d hd
  obtain ⟨x', e1, q1⟩ := r1.get h1
  obtain ⟨y', e2, q2⟩ := r2.get h2
  rw [hx] at e1; cases e1
  rw [hy] at e2; cases e2
  exact ⟨a, b, h3, fun w s o => ⟨q1.step s ok1, q2.step s ok1⟩⟩
theorem si_zip {e e2 : Expr} {m : Am} {p pos tpos : Pos} {elts : List Expr} {kk : Nat} (hm : X.mg "zip" = none) (ha : SA X W [e, e2] m) (hg : Gl X "zip" := by rfl) (hs : starEach [e, e2] X.env = (false, eval e X.env) :: starEach [e2] X.env := by rfl) (hs2 : (backTo pos (starEach [e2] X.env)).any (·.1) = false := by rfl) :
    SI X W (.Tuple elts kk tpos) (.Call (.Name "zip" p) [e, e2] [] pos) (iZipM m) :=
  pi_imp (pi_zipA hg hm ha hs hs2) fun σV H R q => by
    obtain ⟨w, σ, rfl, ok, sl, p⟩ := q
    refine ⟨w, σ, rfl, ok, sl, PR.bind ok p fun ds st vs mu H1 e1 s1 ok1 r1 p1 => ?_⟩
    by_cases hsh : ∃ xs ys, ds = [.lst xs, .lst ys]
    · obtain ⟨xs, ys, rfl⟩ := hsh
      cases r1 with
      | cons r t =>
        cases t with
        | cons r2 t2 =>
          cases t2
          cases r with
          | @lst a us _ h hl ho hs =>
            cases r2 with
            | @lst b vs _ h' hl' ho' hs' =>
              exact ⟨a, b, us, vs, rfl, .inl ⟨.inl (.inl h), .inl (.inl h'), PR.ret (w := ⟨mu, st, H1, w.op⟩) (R := fun w J items => Wk X.K w J items) ok1 p1 (wk_pairs (by rw [zipD_len, hs.length, hs'.length]) (walk_zip rfl) (fun w' s o => ⟨.inl (.inl (s.keep _ _ h hl)), .inl (.inl (s.keep _ _ h' hl'))⟩) (zip_items ok1 hs hs'))⟩⟩
    · by_cases hsh2 : ∃ xs ys, ds = [.tup xs, .tup ys]
      · obtain ⟨xs, ys, rfl⟩ := hsh2
        cases r1 with
        | cons r t =>
          cases t with
          | cons r2 t2 =>
            cases t2
            obtain ⟨a, us, rfl, hs, h⟩ := tup_ok r ok1
            obtain ⟨b, vs, rfl, hs', h'⟩ := tup_ok r2 ok1
            exact ⟨a, b, us, vs, rfl, .inr ⟨h _ (.refl _), h' _ (.refl _), PR.ret (w := ⟨mu, st, H1, w.op⟩) (R := fun w J items => Wk X.K w J items) ok1 p1 (wk_pairs (by rw [zipD_len, hs.length, hs'.length]) (walk_zipT rfl) (fun w' s o => ⟨h _ s, h' _ s⟩) (zip_items ok1 hs hs'))⟩⟩
      · exfalso
        revert p1
        split <;> first | (rename_i xs ys; exact fun _ => hsh ⟨xs, ys, rfl⟩) | (rename_i xs ys; exact fun _ => hsh2 ⟨xs, ys, rfl⟩) | exact fun z => z
@[simp] def iRevM (m : Em) : Im := fun σ st => (m σ st).bind fun d st1 => match valItems d with
  | some ds => .ok ds.reverse st1
  | none => .bad
theorem wk_rev {w0 : Wd} {J : It} {items : List D} {vs : List V} {G : Hp → Prop} (hw : Walk J vs.length G (fun i H x H' => H' = H ∧ vs[vs.length - 1 - i]? = some x)) (ok : Ok K w0) (rs : Reps K w0 vs items) (hG : ∀ w, Step w0 w → Ok K w → G w.H) : Wk K w0 J items.reverse := by
  refine ⟨G, _, by rw [List.length_reverse, ← rs.length]; exact hw, hG, fun i d w x H' hi s o y => ?_⟩
  obtain ⟨e1, e2⟩ := y
  have hlt : i < items.length := by
    have := (List.getElem?_eq_some_iff.mp hi).1
    simpa using this
  rw [List.getElem?_reverse hlt] at hi
  obtain ⟨v, h1, h2⟩ := rs.get hi
  rw [← rs.length] at h1
  rw [e2] at h1; cases h1
  exact ⟨w, e1.symm, rfl, rfl, .refl _, o, h2.step s ok⟩
theorem walk_revT {a : Addr} {xs : List V} : Walk (ItvT K a xs.length) xs.length (fun H => SqT K H a xs) (fun i H x H' => H' = H ∧ xs[xs.length - 1 - i]? = some x) :=
  ⟨fun i _ hi q => ⟨hi, xs, xs[xs.length - 1 - i]'(by omega), q, by simp [show xs.length - 1 - i < xs.length by omega]⟩, fun _ _ => Nat.le_refl _, fun _ _ _ _ _ q y => ⟨y.1, y.2 xs q⟩⟩
theorem si_rev {e : Expr} {m : Em} {p pos : Pos} (hm : X.mg "reversed" = none) (ha : SE X W e m) (hg : Gl X "reversed" := by rfl) (hs : starEach [e] X.env = [(false, eval e X.env)] := by rfl) :
    SI X W tg (.Call (.Name "reversed" p) [e] [] pos) (iRevM m) :=
  pi_imp (pi_revA hg hm ha hs) fun σV H R q => by
    obtain ⟨w, σ, rfl, ok, sl, p⟩ := q
    refine ⟨w, σ, rfl, ok, sl, PR.bind ok p fun d st v mu H1 e1 s1 ok1 r1 p1 => ?_⟩
    cases r1 with
    | @tup a vs ds h ho hs => exact ⟨a, vs, rfl, .inr ⟨.inl h, PR.ret (w := ⟨mu, st, H1, w.op⟩) (R := fun w J items => Wk X.K w J items) ok1 p1 (wk_rev (K := X.K) walk_revT ok1 hs fun w' s o => .inl (s.rdT ok1 h))⟩⟩
    | @ktup a vs ds h hs => exact ⟨a, vs, rfl, .inr ⟨h _, PR.ret (w := ⟨mu, st, H1, w.op⟩) (R := fun w J items => Wk X.K w J items) ok1 p1 (wk_rev (K := X.K) walk_revT ok1 hs fun w' s o => h _)⟩⟩
    | @lst a vs ds h hl ho hs => exact ⟨a, vs, rfl, .inl ⟨.inl (.inl h), PR.ret (w := ⟨mu, st, H1, w.op⟩) (R := fun w J items => Wk X.K w J items) ok1 p1 (wk_rev (K := X.K) walk_rev ok1 hs fun w' s o => .inl (.inl (s.keep _ _ h hl)))⟩⟩
    | @kscr a vs ds h ht hs => exact ⟨a, vs, rfl, .inl ⟨h _, PR.ret (w := ⟨mu, st, H1, w.op⟩) (R := fun w J items => Wk X.K w J items) ok1 p1 (wk_rev (K := X.K) walk_rev ok1 hs fun w' s _ => h _)⟩⟩
    | @scr a o vs ds h hl ho hs => exact ⟨a, vs, rfl, .inl ⟨.inl (.inr ⟨o, h⟩), PR.ret (w := ⟨mu, st, H1, w.op⟩) (R := fun w J items => Wk X.K w J items) ok1 p1 (wk_rev (K := X.K) walk_rev ok1 hs fun w' s _ => .inl (.inr ⟨o, s.keep _ _ h hl⟩))⟩⟩
    | _ => exact p1.elim

/-! ### for -/
def forM (f : D → Sl → Sto → RS) : List D → Sl → Sto → RS
  | [], σ, st => .nx σ st
  | d :: ds, σ, st => match f d σ st with
    | .nx σ' st' => forM f ds σ' st'
    | .ct σ' st' => forM f ds σ' st'
    | .bk σ' st' => .nx σ' st'
    | .rt d' st' => .rt d' st'
    | .exc x σ' st' => .exc x σ' st'
    | .bad => .bad
def inTurn (g : Gm) (b : Sm) : D → Sl → Sto → RS := fun d σ st => match g d σ with
  | some σ' => b σ' st
  | none => .bad
@[simp] def sFor (im : Im) (g : Gm) (b : Sm) : Sm := fun σ st => (im σ st).toRS σ fun items st1 => forM (inTurn g b) items σ st1
theorem ss_for {iter : Expr} {body : List Stmt} {im : Im} {g : Gm} {b : Sm} {pos : Pos} (hp : PassesOwn (model X.prog X.w) X.A X.env X.xe) (hc : X.calm = true) (hi : SI X W tg iter im) (hg : SG X tg g) (hb : SSs X W body b)
    (hs : ∀ x, foldedSetIterable iter X.env x = pure x := by intro _; rfl) : SS X W (.For tg iter body [] pos) (sFor im g b) := by
  obtain ⟨g1, p1, k1⟩ := hg
  refine ps_imp (ps_for hp hc hi p1 hb hs) fun D σV H q => ?_
  obtain ⟨w, σ, rfl, ok, sl, p⟩ := q
  refine ⟨w, σ, rfl, ok, sl, PSr.toR ok sl p fun items st J mu H1 e1 s1 ok1 wk p2 => ?_⟩
  obtain ⟨G, Y, hw, hG, hY⟩ := wk
  refine for_it hw (fun i σV H => ∃ w2 σ2, w2.H = H ∧ Ok X.K w2 ∧ Slots X.K w2 σ2 σV ∧ Step ⟨mu, st, H1, w.op⟩ w2 ∧ PSr X.K w2 (forM (inTurn g b) (items.drop i) σ2 w2.st) D W) ?_ ?_ ?_ ?_
  · exact ⟨⟨mu, st, H1, w.op⟩, σ, rfl, ok1, sl.step s1 ok, .refl _, p2⟩
  · rintro i σV' H' hi ⟨w2, σ2, rfl, ok2, sl2, s2, p3⟩
    exact hG w2 s2 ok2
  · rintro i x σV' H' H2 hi ⟨w2, σ2, rfl, ok2, sl2, s2, p3⟩ y
    have hi2 : i < items.length := hi
    obtain ⟨w3, rfl, est, eop, s3, ok3, r3⟩ := hY i items[i] w2 x H2 (by simp [hi2]) s2 ok2 y
    rw [List.drop_eq_getElem_cons hi2] at p3
    unfold forM inTurn at p3
    cases q : g items[i] σ2 with
    | none => simp only [q] at p3; exact p3.elim
    | some σ3 =>
      simp only [q] at p3
      refine k1 w3 x items[i] σ2 σ3 σV' _ ok3 r3 (sl2.step s3 ok2) q fun σV3 sl3 => ⟨w3, σ3, rfl, ok3, sl3, ?_⟩
      have p4 := PSr.step s3 ok2 p3 eop
      rw [← est] at p4
      cases e3 : b σ3 w3.st with
      | nx σ4 st4 =>
        simp only [e3] at p4
        exact fun σV4 mu4 H4 s4 ok4 sl4 => ⟨⟨mu4, st4, H4, w3.op⟩, σ4, rfl, ok4, sl4, (s2.trans s3 (by exact ok1)).trans s4 (by exact ok1), PSr.step s4 ok3 p4⟩
      | ct σ4 st4 =>
        simp only [e3] at p4
        exact fun σV4 mu4 H4 s4 ok4 sl4 => ⟨⟨mu4, st4, H4, w3.op⟩, σ4, rfl, ok4, sl4, (s2.trans s3 (by exact ok1)).trans s4 (by exact ok1), PSr.step s4 ok3 p4⟩
      | bk σ4 st4 => simp only [e3] at p4; exact p4
      | rt d4 st4 => simp only [e3] at p4; exact p4
      | exc x4 σ4 st4 => simp only [e3] at p4; exact p4
      | bad => simp only [e3] at p4; exact p4.elim
  · rintro σV' H' ⟨w2, σ2, rfl, ok2, sl2, s2, p3⟩
    rw [List.drop_length] at p3
    exact PSr.ret ok2 p3 sl2
/-! ### while -/
def whileM (c : Tm) (b : Sm) : Nat → Sl → Sto → RS
  | 0, _, _ => .bad
  | n + 1, σ, st => match c σ st with
    | .ok true st1 => (match b σ st1 with
      | .nx σ' st' => whileM c b n σ' st'
      | .ct σ' st' => whileM c b n σ' st'
      | .bk σ' st' => .nx σ' st'
      | .rt d' st' => .rt d' st'
      | .exc x σ' st' => .exc x σ' st'
      | .bad => .bad)
    | .ok false st1 => .nx σ st1
    | .exc x st1 => .exc x σ st1
    | .bad => .bad
/-- f: more than the turns, from the slots -/
def sWhile (f : Sl → Nat) (c : Tm) (b : Sm) : Sm := fun σ st => whileM c b (f σ) σ st
theorem ss_while {c : Expr} {body : List Stmt} {f : Sl → Nat} {t : Tm} {b : Sm} {pos : Pos} (hp : PassesOwn (model X.prog X.w) X.A X.env X.xe) (hc : ST X W c t) (hb : SSs X W body b) : SS X W (.While c body [] pos) (sWhile f t b) := by
  refine ps_imp (ps_while hp hc hb) fun D σV H q => ?_
  obtain ⟨w, σ, rfl, ok, sl, p⟩ := q
  refine ⟨fun m σV H => ∃ w2 σ2, w2.H = H ∧ Ok X.K w2 ∧ Slots X.K w2 σ2 σV ∧ PSr X.K w2 (whileM t b m σ2 w2.st) D W, ⟨f σ, w, σ, rfl, ok, sl, p⟩, ?_⟩
  rintro m σV2 H2 ⟨w2, σ2, rfl, ok2, sl2, p2⟩
  cases m with
  | zero => exact p2.elim
  | succ n =>
    refine ⟨w2, σ2, rfl, ok2, sl2, ?_⟩
    unfold whileM at p2
    cases e1 : t σ2 w2.st with
    | bad => simp only [e1] at p2; exact p2.elim
    | exc x st1 =>
      simp only [e1] at p2
      exact fun c dd mu H t o q => p2 c dd σV2 mu H t o (sl2.step t ok2) q
    | ok c1 st1 =>
      intro cb mu H3 s3 ok3 ec
      subst ec
      simp only [e1] at p2
      have p3 := PSr.step s3 ok2 p2
      cases cb with
      | false =>
        simp only at p3
        exact (if_neg Bool.false_ne_true).mpr (PSr.ret (w := ⟨mu, st1, H3, w2.op⟩) ok3 p3 (sl2.step s3 ok2))
      | true =>
        simp only at p3
        refine (if_pos rfl).mpr ⟨fun σV4 H4 => ∃ m', m' < n + 1 ∧ ∃ w4 σ4, w4.H = H4 ∧ Ok X.K w4 ∧ Slots X.K w4 σ4 σV4 ∧ PSr X.K w4 (whileM t b m' σ4 w4.st) D W, fun σ' H' h => h, ⟨mu, st1, H3, w2.op⟩, σ2, rfl, ok3, sl2.step s3 ok2, ?_⟩
        show PSr _ _ (b σ2 st1) _ _
        cases e3 : b σ2 st1 with
        | nx σ4 st4 =>
          simp only [e3] at p3
          exact fun σV4 mu4 H4 s4 ok4 sl4 => ⟨n, Nat.lt_succ_self _, ⟨mu4, st4, H4, w2.op⟩, σ4, rfl, ok4, sl4, PSr.step s4 ok3 p3⟩
        | ct σ4 st4 =>
          simp only [e3] at p3
          exact fun σV4 mu4 H4 s4 ok4 sl4 => ⟨n, Nat.lt_succ_self _, ⟨mu4, st4, H4, w2.op⟩, σ4, rfl, ok4, sl4, PSr.step s4 ok3 p3⟩
        | bk σ4 st4 => simp only [e3] at p3; exact p3
        | rt d4 st4 => simp only [e3] at p3; exact p3
        | exc x4 σ4 st4 => simp only [e3] at p3; exact p3
        | bad => simp only [e3] at p3; exact p3.elim
end
end Sim

set_option Elab.async false
set_option linter.all false
set_option maxRecDepth 100000
set_option maxHeartbeats 4000000
/-! comprehensions, built-in calls, methods of lists -/
namespace Sim
open PySem PySem.Spec PyProof.Rows L2

/-! ### list comprehensions -/
def wipeD (σ : Sl) : List Nat → Sl
  | [] => σ
  | v :: vs => (wipeD σ vs).set v none
theorem Slots.wipe {K : Frag} {w : Wd} {σ : Sl} {σV : L2.St} (h : Slots K w σ σV) : ∀ own : List Nat, Slots K w (wipeD σ own) (L2.wipe σV own)
  | [] => h
  | v :: vs => (Slots.wipe h vs).del v none
/-- what a target does to the slots: those of own alone -/
def GRel (K : Frag) (own : List Nat) (g : TG) (gm : Gm) : Prop := ∀ (w : Wd) (v : V) (d : D) (σ σ' : Sl) (σV : L2.St) (Q : L2.St → Hp → Prop), Ok K w → Rep K w v d → Slots K w σ σV → gm d σ = some σ' → (∀ σV', Slots K w σ' σV' → L2.wipe σV' own = L2.wipe σV own → Q σV' w.H) → g v σV w.H Q
def GRels (K : Frag) (own : List Nat) (g : TGs) (gm : Gms) : Prop := ∀ (w : Wd) (vs : List V) (ds : List D) (σ σ' : Sl) (σV : L2.St) (Q : L2.St → Hp → Prop), Ok K w → Reps K w vs ds → Slots K w σ σV → gm ds σ = some σ' → (∀ σV', Slots K w σ' σV' → L2.wipe σV' own = L2.wipe σV own → Q σV' w.H) → g vs σV w.H Q
theorem wipe_set {σ : L2.St} {i : Nat} {x : Option V} : ∀ {own : List Nat}, i ∈ own → L2.wipe (σ.set i x) own = L2.wipe σ own
  | v :: vs, h => by
    unfold L2.wipe
    by_cases e : i = v
    · subst e
      by_cases m : i ∈ vs
      · rw [wipe_set m]
      · have q : ∀ {τ : L2.St} {ws : List Nat}, i ∉ ws → L2.wipe (τ.set i x) ws = (L2.wipe τ ws).set i x := by
          intro τ ws
          induction ws with
          | nil => intro _; rfl
          | cons u us ih =>
            intro hu
            unfold L2.wipe
            rw [ih (fun z => hu (List.mem_cons_of_mem _ z)), List.set_comm _ _ (fun z => hu (by rw [z]; exact List.mem_cons_self))]
        rw [q m, List.set_set]
    · have m : i ∈ vs := by
        rcases List.mem_cons.mp h with z | z
        · exact absurd z e
        · exact z
      rw [wipe_set m]
theorem grel_name {K : Frag} {own : List Nat} {i : Nat} (hi : i ∈ own) : GRel K own (gName i) (gN i) := fun w v d σ σ' σV Q ok r sl e k => by
  cases e
  exact k _ (sl.set r i) (wipe_set hi)
theorem grels_nil {K : Frag} {own : List Nat} : GRels K own gNil gsNil := fun w vs ds σ σ' σV Q ok r sl e k => by
  cases r with
  | nil => cases e; exact ⟨rfl, k _ sl rfl⟩
  | cons _ _ => cases e
theorem grels_cons {K : Frag} {own : List Nat} {g : TG} {gm : Gm} {gs : TGs} {gms : Gms} (h1 : GRel K own g gm) (h2 : GRels K own gs gms) : GRels K own (gCons g gs) (gsCons gm gms) := fun w vs ds σ σ' σV Q ok r sl e k => by
  cases r with
  | nil => cases e
  | @cons v d vs ds r rs =>
    simp only [gsCons] at e
    cases q : gm d σ with
    | none => rw [q] at e; cases e
    | some σ1 =>
      rw [q] at e
      exact ⟨v, vs, rfl, h1 w v d σ σ1 σV _ ok r sl q fun σV1 sl1 e1 => h2 w vs ds σ1 σ' σV1 Q ok rs sl1 e fun σV2 sl2 e2 => k σV2 sl2 (e2.trans e1)⟩
theorem grel_tup {K : Frag} {own : List Nat} {g : TGs} {gs : Gms} {n : Nat} (h : GRels K own g gs) : GRel K own (gTup K n g) (gT n gs) := fun w v d σ σ' σV Q ok r sl e k => by
  cases r with
  | tup h0 ho hs =>
    simp only [gT] at e
    split at e
    · rename_i hl
      exact ⟨_, _, rfl, .inl h0, by rw [hs.length]; exact hl, h w _ _ σ σ' σV Q ok hs sl e k⟩
    · cases e
  | ktup h0 hs =>
    simp only [gT] at e
    split at e
    · rename_i hl
      exact ⟨_, _, rfl, h0 _, by rw [hs.length]; exact hl, h w _ _ σ σ' σV Q ok hs sl e k⟩
    · cases e
  | _ => cases e
/-- item by item -/
def compM (f : D → Sto → Res (Option D)) : List D → Sto → Res (List D)
  | [], st => .ok [] st
  | d :: ds, st => match f d st with
    | .ok (some y) st1 => (match compM f ds st1 with
      | .ok ys st2 => .ok (y :: ys) st2
      | _ => .bad)
    | .ok none st1 => compM f ds st1
    | _ => .bad
/-- nothing is raised in it -/
@[simp] def Res.noX {α : Type} (r : Res α) : Res α := match r with
  | .ok a st => .ok a st
  | _ => .bad
def compF (own : List Nat) (g : Gm) (t : Tm) (e : Em) (σ : Sl) : D → Sto → Res (Option D) := fun d st => match g d (wipeD σ own) with
  | some σ2 => (match t σ2 st with
    | .ok true st2 => (match e σ2 st2 with
      | .ok y st3 => .ok (some y) st3
      | _ => .bad)
    | .ok false st2 => .ok none st2
    | _ => .bad)
  | none => .bad
@[simp] def tTrue : Tm := fun _ st => .ok true st
def eComp (k : Bool) (own : List Nat) (im : Im) (g : Gm) (t : Tm) (e : Em) : Em := fun σ st => (im σ st).bind fun items st1 => (compM (compF own g t e σ) items st1).bind fun ys st2 => mkL k ys st2
abbrev W0 : WX := fun _ _ _ _ => False
def hide (H : Hp) (a : Addr) : Hp := fun b => if b = a then none else H b
theorem hide_same {H : Hp} {a : Addr} : hide H a a = none := by unfold hide; rw [if_pos rfl]
theorem hide_ne {H : Hp} {a b : Addr} (h : b ≠ a) : hide H a b = H b := by unfold hide; rw [if_neg h]
theorem upd_hide {H : Hp} {a : Addr} {o : HO} (h : H a = some o) : upd (hide H a) a o = H := by
  funext b
  unfold upd hide
  by_cases e : b = a
  · rw [if_pos e, e, h]
  · rw [if_neg e, if_neg e]
section
variable {K : Frag}
/-- D is there, and nothing leads to it -/
def Wd.opn (w : Wd) (a : Addr) (o : HO) : Wd := ⟨w.mu, w.st, upd w.H a o, a :: w.op⟩
def Wd.cls (w : Wd) (a : Addr) (op : List Addr) : Wd := ⟨w.mu, w.st, hide w.H a, op⟩
theorem opn_step {w : Wd} {a : Addr} {o : HO} (h : w.H a = none) : Step w (w.opn a o) := by
  obtain ⟨h1, h2, h3, h4, h5, _⟩ := put_step (w := w) (o := o) h
  exact ⟨h1, h2, h3, h4, h5, ⟨[a], rfl, fun b hb => by rw [List.mem_singleton.mp hb]; exact h⟩⟩
theorem opn_ok {w : Wd} {a : Addr} {o : HO} (ok : Ok K w) (h : w.H a = none) : Ok K (w.opn a o) := by
  have p := put_ok (o := o) ok h
  refine ⟨p.len, p.nd, p.has, fun b hb => ?_, fun n b u h1 h2 => ?_, p.tab⟩
  · rcases List.mem_cons.mp hb with z | z
    · rw [z]; exact ⟨ok.notMem h, by show upd w.H a o a ≠ none; rw [upd_same]; simp⟩
    · exact p.opn b z
  · have q : b ≠ a := fun z => ok.notMem h (z ▸ List.mem_of_getElem? h1)
    exact (ok.obj n b u h1 h2).step (opn_step h) ok (upd_ne q)
section
variable {w : Wd} {a : Addr} {op : List Addr}
mutual
theorem Rep.cls : ∀ {v : V} {d : D}, Rep K w v d → w.op = a :: op → Rep K (w.cls a op) v d
  | _, _, .non, _ => .non
  | _, _, .bl b, _ => .bl b
  | _, _, .int i, _ => .int i
  | _, _, .str s, _ => .str s
  | _, _, .ty n, _ => .ty n
  | _, _, @Rep.tup _ _ b _ _ h ho hs, e => by
    rw [e] at ho
    have q : b ≠ a := fun z => ho (by rw [z]; exact List.mem_cons_self)
    refine .tup ?_ (fun z => ho (List.mem_cons_of_mem _ z)) (Reps.cls hs e)
    rcases h with h | ⟨o, h⟩
    · exact .inl ((hide_ne q).trans h)
    · exact .inr ⟨o, (hide_ne q).trans h⟩
  | _, _, .ktup h hs, e => .ktup h (Reps.cls hs e)
  | _, _, @Rep.lst _ _ b _ _ h hl ho hs, e => by
    rw [e] at ho
    have q : b ≠ a := fun z => ho (by rw [z]; exact List.mem_cons_self)
    exact .lst ((hide_ne q).trans h) hl (fun z => ho (List.mem_cons_of_mem _ z)) (Reps.cls hs e)
  | _, _, .kscr h ht hs, e => .kscr h ht (Reps.cls hs e)
  | _, _, @Rep.scr _ _ b _ _ _ h hl ho hs, e => by
    rw [e] at ho
    have q : b ≠ a := fun z => ho (by rw [z]; exact List.mem_cons_self)
    exact .scr ((hide_ne q).trans h) hl (fun z => ho (List.mem_cons_of_mem _ z)) (Reps.cls hs e)
  | _, _, @Rep.ins _ _ b _ _ _ _ h hl ho hs hc, e => by
    rw [e] at ho
    have q : b ≠ a := fun z => ho (by rw [z]; exact List.mem_cons_self)
    exact .ins ((hide_ne q).trans h) hl (fun z => ho (List.mem_cons_of_mem _ z)) (RepF.cls hs e) hc
  | _, _, @Rep.exo _ _ b dx _ _ _ h h2 hl hl2 ho ho2 hs hc, e => by
    rw [e] at ho ho2
    have q : b ≠ a := fun z => ho (by rw [z]; exact List.mem_cons_self)
    have q2 : dx ≠ a := fun z => ho2 (by rw [z]; exact List.mem_cons_self)
    exact .exo ((hide_ne q).trans h) ((hide_ne q2).trans h2) hl hl2 (fun z => ho (List.mem_cons_of_mem _ z)) (fun z => ho2 (List.mem_cons_of_mem _ z)) (RepF.cls hs e) hc
  | _, _, .ref h, _ => .ref h
theorem Reps.cls : ∀ {vs : List V} {ds : List D}, Reps K w vs ds → w.op = a :: op → Reps K (w.cls a op) vs ds
  | _, _, .nil, _ => .nil
  | _, _, .cons r t, e => .cons (Rep.cls r e) (Reps.cls t e)
theorem RepF.cls : ∀ {vs : List (Str × V)} {ds : List (Str × D)}, RepF K w vs ds → w.op = a :: op → RepF K (w.cls a op) vs ds
  | _, _, .nil, _ => .nil
  | _, _, .cons r t, e => .cons (Rep.cls r e) (RepF.cls t e)
end
theorem cls_ok (ok : Ok K w) (e : w.op = a :: op) (ha : a ∉ op) {vs : List V} (hv : w.H a = some (.lst vs)) : Ok K (w.cls a op) := by
  have nm : a ∉ w.mu := (ok.opn a (by rw [e]; exact List.mem_cons_self)).1
  refine ⟨ok.len, ok.nd, fun b hb => ?_, fun b hb => ?_, fun n b u h1 h2 => ?_, tabs_mv ok.tab hv (fun _ z => nomatch z) lst_ne_code fun b hb => hide_ne hb⟩
  · have q : b ≠ a := fun z => nm (z ▸ hb)
    obtain ⟨o, h⟩ := ok.has b hb
    exact ⟨o, (hide_ne q).trans h⟩
  · have q : b ≠ a := fun z => ha (z ▸ hb)
    obtain ⟨h1, h2⟩ := ok.opn b (by rw [e]; exact List.mem_cons_of_mem _ hb)
    exact ⟨h1, by show hide w.H a b ≠ none; rw [hide_ne q]; exact h2⟩
  · have q : b ≠ a := fun z => nm (z ▸ List.mem_of_getElem? h1)
    have r := ok.obj n b u h1 h2
    cases u with
    | lst ds =>
      obtain ⟨vs, q1, q2⟩ := r
      exact ⟨vs, (hide_ne q).trans q1, q2.cls e⟩
    | ins C fs =>
      obtain ⟨dx, fv, q1, q2, hc⟩ := r
      exact ⟨dx, fv, (hide_ne q).trans q1, q2.cls e, hc⟩
end
theorem cls_step {w w2 : Wd} {a : Addr} {o : HO} (ok : Ok K w) (h : w.H a = none) (s : Step (w.opn a o) w2) : Step w (w2.cls a w.op) := by
  obtain ⟨ν, e, hν⟩ := s.ext
  refine ⟨⟨ν, e, fun b hb => ?_⟩, fun b u hb hl hn => ?_, fun n hn => s.dead n hn, s.len, fun b hb => ?_, ⟨[], rfl, by simp⟩⟩
  · have z := hν b hb
    have q : b ≠ a := fun q => by
      have z : upd w.H a o b = none := z
      rw [q, upd_same] at z; cases z
    exact (upd_ne q).symm.trans z
  · have q : b ≠ a := ne_of_none hb h
    have z := s.kp b u ((upd_ne q).trans hb) hl hn
    exact (hide_ne q).trans z
  · have q : b ≠ a := fun q => hb (by rw [q]; exact h)
    show hide w2.H a b ≠ none
    rw [hide_ne q]
    exact s.has b (by show upd w.H a o b ≠ none; rw [upd_ne q]; exact hb)
end
theorem fin_more {k : Bool} {K : Frag} {w : Wd} {f : D → Sto → Res (Option D)} {ds acc : List D} {y : D} {st : Sto} {Q : VK} {E : XK}
    (p : PR K (Rep K) w (Res.bind (match compM f ds st with
      | .ok ys st2 => .ok (y :: ys) st2
      | _ => .bad) fun ys st2 => mkL k (acc ++ ys) st2) Q E) :
    acc.length < line ∧ PR K (Rep K) w ((compM f ds st).bind fun ys st2 => mkL k (acc ++ [y] ++ ys) st2) Q E := by
  cases e : compM f ds st with
  | bad => rw [e] at p; exact p.elim
  | exc x st2 => rw [e] at p; exact p.elim
  | ok ys st2 =>
    rw [e] at p
    simp only [Res.bind] at p ⊢
    rw [show acc ++ [y] ++ ys = acc ++ y :: ys by simp]
    by_cases hl : (acc ++ y :: ys).length ≤ line
    · refine ⟨?_, p⟩
      rw [List.length_append, List.length_cons] at hl
      omega
    · unfold mkL at p
      rw [if_neg hl] at p; exact p.elim
section
variable {X : Cx} {W : WX}
theorem t_comp {k : Bool} {g : TG} {tt : TT} {own : List Nat} {im : Im} {gm : Gm} {tm : Tm} {em : Em} (hg : GRel X.K own g gm) (ht : ∀ σ H Q, TTm X.K tm W0 σ H Q → tt σ H Q) {σV : L2.St} {H : Hp} {Q : VK}
    (hq : TEm X.K (eComp k own im gm tm em) W σV H Q) : tLc (TIm X.K im W) g tt (TEm X.K em W0) own σV H Q := by
  obtain ⟨w, σ, rfl, ok, sl, p⟩ := hq
  refine ⟨w, σ, rfl, ok, sl, PR.bind ok p fun items st J mu H1 e1 s1 ok1 wk p1 => ?_⟩
  intro A hA
  obtain ⟨G, Y, hw, hG, hY⟩ := wk
  refine lc_it hw (fun i H => ∃ (w2 : Wd) (va : List V) (acc : List D), w2.op = w.op ∧ w2.H A = none ∧ H = upd w2.H A (.lst va) ∧ Ok X.K w2 ∧ Step ⟨mu, st, H1, w.op⟩ w2 ∧ Reps X.K w2 va acc ∧
    PR X.K (Rep X.K) w2 ((compM (compF own gm tm em σ) (items.drop i) w2.st).bind fun ys st2 => mkL k (acc ++ ys) st2) Q (xk W σV)) ?_ ?_ ?_ ?_
  · exact ⟨⟨mu, st, H1, w.op⟩, [], [], rfl, hA, rfl, ok1, .refl _, .nil, p1⟩
  · rintro i H' hi ⟨w2, va, acc, eop, hA2, rfl, ok2, s2, ra, p2⟩
    exact hG (w2.opn A (.lst va)) (s2.trans (opn_step hA2) (by exact ok1)) (opn_ok ok2 hA2)
  · rintro i x H' H2 hi ⟨w2, va, acc, eop, hA2, rfl, ok2, s2, ra, p2⟩ y
    have so := s2.trans (opn_step (o := .lst va) hA2) (by exact ok1)
    have oo := opn_ok (o := .lst va) ok2 hA2
    obtain ⟨w3, rfl, est, eop3, s3, ok3, r3⟩ := hY i items[i] (w2.opn A (.lst va)) x H2 (by simp [hi]) so oo y
    rw [List.drop_eq_getElem_cons hi] at p2
    unfold compM compF at p2
    cases q : gm items[i] (wipeD σ own) with
    | none => simp only [q] at p2; exact p2.elim
    | some σ3 =>
      simp only [q] at p2
      have slw : Slots X.K w3 (wipeD σ own) (L2.wipe σV own) := ((((sl.step s1 ok).step s2 ok1).step (opn_step (o := .lst va) hA2) ok2).step s3 oo).wipe own
      refine hg w3 x items[i] _ σ3 _ _ ok3 r3 slw q fun σV3 sl3 ew => ⟨?_, ht _ _ _ ⟨w3, σ3, rfl, ok3, sl3, ?_⟩⟩
      · have iw : L2.wipe (L2.wipe σV own) own = L2.wipe σV own := by
          have aux : ∀ (l : List Nat) (τ : L2.St), (∀ v ∈ l, v ∈ own) → L2.wipe (L2.wipe τ l) own = L2.wipe τ own := by
            intro l
            induction l with
            | nil => intro τ _; rfl
            | cons v vs ih =>
              intro τ hv
              rw [show L2.wipe τ (v :: vs) = (L2.wipe τ vs).set v none from rfl, wipe_set (hv v List.mem_cons_self)]
              exact ih τ fun u hu => hv u (List.mem_cons_of_mem _ hu)
          exact aux own σV fun _ h => h
        rw [ew, iw]
      · rw [est]
        show PR _ _ w3 (tm σ3 w2.st) _ _
        have w3op : w3.op = A :: w2.op := eop3
        have hA3 : A ∉ w2.op := ok2.notOp hA2
        have s23 : Step (w2.opn A (.lst va)) w3 := s3
        cases e2 : tm σ3 w2.st with
        | bad => simp only [e2] at p2; exact p2.elim
        | exc xx st4 => simp only [e2] at p2; exact p2.elim
        | ok cc st4 =>
          intro b4 mu4 H4 s4 ok4 eb
          subst eb
          simp only [e2] at p2
          have s24 : Step (w2.opn A (.lst va)) ⟨mu4, st4, H4, w3.op⟩ := s23.trans s4 oo
          cases b4 with
          | false =>
            simp only at p2
            have hD : H4 A = some (.lst va) := s24.keep A _ (by show upd w2.H A (.lst va) A = _; exact upd_same) (put_live (o := .lst va) ok2 hA2)
            have sc := cls_step ok2 hA2 s24
            refine (if_neg Bool.false_ne_true).mpr ⟨(⟨mu4, st4, H4, w3.op⟩ : Wd).cls A w2.op, va, acc, eop, hide_same, (upd_hide hD).symm, cls_ok ok4 w3op hA3 hD, s2.trans sc (by exact ok1), ra.step sc ok2, ?_⟩
            exact PR.step sc ok2 p2
          | true =>
            simp only at p2
            refine (if_pos rfl).mpr ⟨⟨mu4, st4, H4, w3.op⟩, σ3, rfl, ok4, sl3.step s4 ok3, ?_⟩
            show PR _ _ _ (em σ3 st4) _ _
            cases e3 : em σ3 st4 with
            | bad => simp only [e3] at p2; exact p2.elim
            | exc xx st5 => simp only [e3] at p2; exact p2.elim
            | ok y5 st5 =>
              intro v5 mu5 H5 s5 ok5 r5
              simp only [e3] at p2
              have s25 : Step (w2.opn A (.lst va)) ⟨mu5, st5, H5, w3.op⟩ := s24.trans s5 oo
              have hD : H5 A = some (.lst va) := s25.keep A _ (by show upd w2.H A (.lst va) A = _; exact upd_same) (put_live (o := .lst va) ok2 hA2)
              have sc := cls_step ok2 hA2 s25
              have p3 := PR.step sc ok2 p2
              have eu : upd H5 A (.lst (va ++ [v5])) = upd (hide H5 A) A (.lst (va ++ [v5])) := by
                funext b
                unfold upd hide
                by_cases e : b = A
                · rw [if_pos e, if_pos e]
                · rw [if_neg e, if_neg e, if_neg e]
              obtain ⟨hlt, p4⟩ := fin_more p3
              refine ⟨va, hD, by rw [ra.length, line_eq]; exact hlt, (⟨mu5, st5, H5, w3.op⟩ : Wd).cls A w2.op, va ++ [v5], acc ++ [y5], eop, hide_same, eu, cls_ok ok5 w3op hA3 hD, s2.trans sc (by exact ok1), (ra.step sc ok2).append (.cons (r5.cls w3op) .nil), p4⟩
  · rintro H' ⟨w2, va, acc, eop, hA2, rfl, ok2, s2, ra, p2⟩
    rw [List.drop_length] at p2
    simp only [compM, Res.bind, List.append_nil] at p2
    exact (mkL_ok ok2 p2 ra).2 A hA2
/-- [elt for tg in iter] -/
theorem se_comp {k : Bool} {elt tg iter : Expr} {scope : Scope} {own : List (Str × Nat)} {pos : Pos} {g : TG} {gm : Gm} {im : Im} {em : Em} (hc : X.calm = true) (hN : X.N.Nodup) (hi : SI X W tg iter im) (ok : BlkOk X.N X.env.scope scope own)
    (hg : ∀ (s : Shared) (H : Hp) (C : Addr) (cl : List (Str × Addr)) (fp : List Addr), PG (X.blk s H scope (compEnvC scope cl C X.env) fp) tg g) (hgr : GRel X.K (own.map (·.2)) g gm)
    (he : ∀ (s : Shared) (H : Hp) (C : Addr) (cl : List (Str × Addr)) (fp : List Addr), SE (X.blk s H scope (compEnvC scope cl C X.env) fp) W0 elt em) (hs : ∀ x, foldedSetIterable iter X.env x = pure x := by intro _; rfl) :
    SE X W (.ListComp elt [⟨tg, iter, [], 0⟩] scope pos) (eComp k (own.map (·.2)) im gm tTrue em) :=
  pe_imp (pe_lc (te := TEm X.K em W0) hc hN hi ok hg (fun _ _ _ _ _ => pts_nil) he hs) fun _ _ _ q => t_comp hgr (fun σ H Q z => by
    obtain ⟨w, σ, rfl, ok, sl, p⟩ := z
    exact PR.ret (R := fun _ b c => b = c) ok p rfl) q
theorem se_compIf {k : Bool} {elt tg iter c : Expr} {scope : Scope} {own : List (Str × Nat)} {pos : Pos} {g : TG} {gm : Gm} {im : Im} {em : Em} {tm : Tm} (hc : X.calm = true) (hN : X.N.Nodup) (hi : SI X W tg iter im) (ok : BlkOk X.N X.env.scope scope own)
    (hg : ∀ (s : Shared) (H : Hp) (C : Addr) (cl : List (Str × Addr)) (fp : List Addr), PG (X.blk s H scope (compEnvC scope cl C X.env) fp) tg g) (hgr : GRel X.K (own.map (·.2)) g gm)
    (ht : ∀ (s : Shared) (H : Hp) (C : Addr) (cl : List (Str × Addr)) (fp : List Addr), ST (X.blk s H scope (compEnvC scope cl C X.env) fp) W0 c tm)
    (he : ∀ (s : Shared) (H : Hp) (C : Addr) (cl : List (Str × Addr)) (fp : List Addr), SE (X.blk s H scope (compEnvC scope cl C X.env) fp) W0 elt em) (hs : ∀ x, foldedSetIterable iter X.env x = pure x := by intro _; rfl) :
    SE X W (.ListComp elt [⟨tg, iter, [c], 0⟩] scope pos) (eComp k (own.map (·.2)) im gm tm em) :=
  pe_imp (pe_lc (te := TEm X.K em W0) (tt := TTm X.K tm W0) hc hN hi ok hg (fun s H C cl fp => pts_one (t := TTm X.K tm W0) (ht s H C cl fp)) he hs) fun _ _ _ q => t_comp hgr (fun σ H Q z => z) q
/-- name = [..] on one line -/
theorem ss_setComp {k : Bool} {i : Nat} {y : Str} {py : Pos} {elt tg iter : Expr} {scope : Scope} {own : List (Str × Nat)} {pos spos : Pos} {g : TG} {gm : Gm} {im : Im} {em : Em} (hc : X.calm = true) (hN : X.N.Nodup) (hy : X.N[i]? = some y) (hyl : X.env.scope.names.lookup y = some .local)
    (hsw : swapsWith (.ListComp elt [⟨tg, iter, [], 0⟩] scope pos) (some (.Name y py)) spos.line X.env = pure true) (hi : SI X W tg iter im) (ok : BlkOk X.N X.env.scope scope own)
    (hg : ∀ (s : Shared) (H : Hp) (C : Addr) (cl : List (Str × Addr)) (fp : List Addr), PG (X.blk s H scope (compEnvC scope cl C X.env) fp) tg g) (hgr : GRel X.K (own.map (·.2)) g gm)
    (he : ∀ (s : Shared) (H : Hp) (C : Addr) (cl : List (Str × Addr)) (fp : List Addr), SE (X.blk s H scope (compEnvC scope cl C X.env) fp) W0 elt em) (hs : ∀ x, foldedSetIterable iter X.env x = pure x := by intro _; rfl) :
    SS X W (.Assign [.Name y py] (.ListComp elt [⟨tg, iter, [], 0⟩] scope pos) spos) (sSet i (eComp k (own.map (·.2)) im gm tTrue em)) :=
  ps_imp (ps_setLc (te := TEm X.K em W0) hc hN hy hyl hsw hi ok hg (fun _ _ _ _ _ => pts_nil) he hs) fun D σV H q => by
    obtain ⟨w, σ, rfl, ok, sl, p⟩ := q
    refine t_comp hgr (fun σ H Q z => by
      obtain ⟨w, σ, rfl, ok, sl, p⟩ := z
      exact PR.ret (R := fun _ b c => b = c) ok p rfl) (k := k) ⟨w, σ, rfl, ok, sl, PSr.toR ok sl p fun d st v mu H1 e1 s1 ok1 r1 p1 => ?_⟩
    exact PSr.ret (w := ⟨mu, st, H1, w.op⟩) ok1 p1 ((sl.step s1 ok).set r1 i)
theorem ss_setCompIf {k : Bool} {i : Nat} {y : Str} {py : Pos} {elt tg iter c : Expr} {scope : Scope} {own : List (Str × Nat)} {pos spos : Pos} {g : TG} {gm : Gm} {im : Im} {em : Em} {tm : Tm} (hc : X.calm = true) (hN : X.N.Nodup) (hy : X.N[i]? = some y) (hyl : X.env.scope.names.lookup y = some .local)
    (hsw : swapsWith (.ListComp elt [⟨tg, iter, [c], 0⟩] scope pos) (some (.Name y py)) spos.line X.env = pure true) (hi : SI X W tg iter im) (ok : BlkOk X.N X.env.scope scope own)
    (hg : ∀ (s : Shared) (H : Hp) (C : Addr) (cl : List (Str × Addr)) (fp : List Addr), PG (X.blk s H scope (compEnvC scope cl C X.env) fp) tg g) (hgr : GRel X.K (own.map (·.2)) g gm)
    (ht : ∀ (s : Shared) (H : Hp) (C : Addr) (cl : List (Str × Addr)) (fp : List Addr), ST (X.blk s H scope (compEnvC scope cl C X.env) fp) W0 c tm)
    (he : ∀ (s : Shared) (H : Hp) (C : Addr) (cl : List (Str × Addr)) (fp : List Addr), SE (X.blk s H scope (compEnvC scope cl C X.env) fp) W0 elt em) (hs : ∀ x, foldedSetIterable iter X.env x = pure x := by intro _; rfl) :
    SS X W (.Assign [.Name y py] (.ListComp elt [⟨tg, iter, [c], 0⟩] scope pos) spos) (sSet i (eComp k (own.map (·.2)) im gm tm em)) :=
  ps_imp (ps_setLc (te := TEm X.K em W0) (tt := TTm X.K tm W0) hc hN hy hyl hsw hi ok hg (fun s H C cl fp => pts_one (t := TTm X.K tm W0) (ht s H C cl fp)) he hs) fun D σV H q => by
    obtain ⟨w, σ, rfl, ok, sl, p⟩ := q
    refine t_comp hgr (fun σ H Q z => z) (k := k) ⟨w, σ, rfl, ok, sl, PSr.toR ok sl p fun d st v mu H1 e1 s1 ok1 r1 p1 => ?_⟩
    exact PSr.ret (w := ⟨mu, st, H1, w.op⟩) ok1 p1 ((sl.step s1 ok).set r1 i)
end
end Sim

set_option Elab.async false
set_option linter.all false
set_option maxRecDepth 100000
set_option maxHeartbeats 4000000
/-! built-in calls, methods of lists and texts -/
namespace Sim
open PySem PySem.Spec PyProof.Rows L2

/-! ### built-in functions and types -/
def GC (K : Frag) (r : List V → Hp → VK → Prop) (g : List D → Sto → Res D) : Prop := ∀ (w : Wd) (xs : List V) (ds : List D) (Q : VK) (E : XK), Ok K w → Reps K w xs ds → PR K (Rep K) w (g ds w.st) Q E → r xs w.H Q
@[simp] def eCB (g : List D → Sto → Res D) (a : Am) : Em := fun σ st => (a σ st).bind fun ds st1 => g ds st1
section
variable {X : Cx} {W : WX} {x : Str} {p pos : Pos} {e : Expr} {es : List Expr} {id T : String} {r : List V → Hp → VK → Prop} {g : List D → Sto → Res D} {ma : Am}
theorem t_cb (hg : GC X.K r g) {σV : L2.St} {H : Hp} {Q : VK} (q : TEm X.K (eCB g ma) W σV H Q) : tCB r (TAm X.K ma W) σV H Q := by
  obtain ⟨w, σ, rfl, ok, sl, p⟩ := q
  refine ⟨w, σ, rfl, ok, sl, PR.bind ok p fun ds st xs mu H1 e1 s1 ok1 r1 p1 => ?_⟩
  exact hg ⟨mu, st, H1, w.op⟩ xs ds Q _ ok1 r1 p1
theorem se_cb (hc : CallR X (.builtin id) r) (hg : GC X.K r g) (hm : X.mg x = none) (ha : SA X W (e :: es) ma) (hv : bootBuiltins x = some (.builtin id) := by decide +kernel) (hgl : Gl X x := by rfl) (hn : x ≠ "__name__" := by decide) (hdb : (x == ("__debug__" : Str)) = false := by decide)
    (he : starEach (e :: es) X.env = (false, eval e X.env) :: starEach es X.env := by rfl) (hpl : (backTo pos (starEach es X.env)).any (·.1) = false := by rfl) : SE X W (.Call (.Name x p) (e :: es) [] pos) (eCB g ma) :=
  pe_imp (pe_callB hc hgl hm hv ha hn hdb he hpl) fun _ _ _ q => t_cb hg q
theorem se_cty (hc : CallR X (.type T) r) (hg : GC X.K r g) (hm : X.mg x = none) (ha : SA X W (e :: es) ma) (hv : bootBuiltins x = some (.type T) := by decide +kernel) (hgl : Gl X x := by rfl) (hn : x ≠ "__name__" := by decide) (hdb : (x == ("__debug__" : Str)) = false := by decide)
    (he : starEach (e :: es) X.env = (false, eval e X.env) :: starEach es X.env := by rfl) (hpl : (backTo pos (starEach es X.env)).any (·.1) = false := by rfl) : SE X W (.Call (.Name x p) (e :: es) [] pos) (eCB g ma) :=
  pe_imp (pe_callTy hc hgl hm hv ha hn hdb he hpl) fun _ _ _ q => t_cb hg q
/-- a module's built-in (gcd) -/
theorem se_cbG (hc : CallR X (.builtin id) r) (hg : GC X.K r g) (hm : X.mg x = some (.builtin id)) (ha : SA X W (e :: es) ma) (hgl : Gl X x := by rfl) (hdb : (x == ("__debug__" : Str)) = false := by decide)
    (he : starEach (e :: es) X.env = (false, eval e X.env) :: starEach es X.env := by rfl) (hpl : (backTo pos (starEach es X.env)).any (·.1) = false := by rfl) : SE X W (.Call (.Name x p) (e :: es) [] pos) (eCB g ma) :=
  pe_imp (pe_callBfun hc hgl hm ha hdb he hpl) fun _ _ _ q => t_cb hg q
end
section
variable {K : Frag}
theorem gc1 {r : List V → Hp → VK → Prop} {g : List D → Sto → Res D} (h0 : ∀ st, g [] st = .bad) (h2 : ∀ a b l st, g (a :: b :: l) st = .bad)
    (h : ∀ (w : Wd) (x : V) (d : D) (Q : VK) (E : XK), Ok K w → Rep K w x d → PR K (Rep K) w (g [d] w.st) Q E → r [x] w.H Q) : GC K r g := fun w xs ds Q E ok rs p => by
  cases rs with
  | nil => rw [h0] at p; exact p.elim
  | cons r t =>
    cases t with
    | nil => exact h w _ _ Q E ok r p
    | cons _ _ => rw [h2] at p; exact p.elim
theorem gc2 {r : List V → Hp → VK → Prop} {g : List D → Sto → Res D} (h0 : ∀ st, g [] st = .bad) (h1 : ∀ a st, g [a] st = .bad) (h3 : ∀ a b c l st, g (a :: b :: c :: l) st = .bad)
    (h : ∀ (w : Wd) (x y : V) (d e : D) (Q : VK) (E : XK), Ok K w → Rep K w x d → Rep K w y e → PR K (Rep K) w (g [d, e] w.st) Q E → r [x, y] w.H Q) : GC K r g := fun w xs ds Q E ok rs p => by
  cases rs with
  | nil => rw [h0] at p; exact p.elim
  | cons r t =>
    cases t with
    | nil => rw [h1] at p; exact p.elim
    | cons r2 t2 =>
      cases t2 with
      | nil => exact h w _ _ _ _ Q E ok r r2 p
      | cons _ _ => rw [h3] at p; exact p.elim
/-- len -/
def lenD : List D → Sto → Res D := fun ds st => match ds with
  | [.str z] => if z.length ≤ line then .ok (.int (z.length : Nat)) st else .bad
  | [d] => (match itemsOf d st with
    | some xs => .ok (.int (xs.length : Nat)) st
    | none => .bad)
  | _ => .bad
theorem gc_len : GC K (fun xs H Q => ∃ x n, xs = [x] ∧ LenV K x H n ∧ Q (.int n) H) lenD := gc1 (fun _ => rfl) (fun a _ _ _ => by cases a <;> rfl) fun w x d Q E ok r p => by
  by_cases hs : ∃ z, d = .str z
  · obtain ⟨z, rfl⟩ := hs
    cases r
    unfold lenD at p
    simp only at p
    by_cases hz : z.length ≤ line
    · rw [if_pos hz] at p
      exact ⟨_, z.length, rfl, ⟨by rw [line_eq]; exact hz, rfl⟩, PR.ret (R := Rep K) ok p (.int _)⟩
    · rw [if_neg hz] at p; exact p.elim
  · have e0 : lenD [d] w.st = (match itemsOf d w.st with
      | some xs => .ok (.int (xs.length : Nat)) w.st
      | none => .bad) := by
      cases d with
      | str z => exact absurd ⟨z, rfl⟩ hs
      | _ => rfl
    rw [e0] at p
    cases e1 : itemsOf d w.st with
    | none => rw [e1] at p; exact p.elim
    | some ds =>
      rw [e1] at p
      obtain ⟨a, vs, rfl, hq, rs⟩ := items_ok ok r e1
      refine ⟨_, ds.length, rfl, ?_, PR.ret (R := Rep K) ok p (.int _)⟩
      rcases hq with hq | hq
      · exact .inl ⟨vs, hq, rs.length.symm⟩
      · exact .inr ⟨vs, hq, rs.length.symm⟩
/-- list(x), tuple(x) -/
def listD (k : Bool) : List D → Sto → Res D := fun ds st => match ds with
  | [d] => (match itemsOf d st with
    | some xs => mkL k xs st
    | none => .bad)
  | _ => .bad
theorem gc_list {k : Bool} : GC K (fun xs H Q => ∃ p ys, xs = [.ref p] ∧ (SqL K H p ys ∨ SqT K H p ys) ∧ ∀ l, H l = none → Q (.ref l) (upd H l (.lst ys))) (listD k) := gc1 (fun _ => rfl) (fun _ _ _ _ => rfl) fun w x d Q E ok r p => by
  unfold listD at p
  cases e1 : itemsOf d w.st with
  | none => simp only [e1] at p; exact p.elim
  | some ds =>
    simp only [e1] at p
    obtain ⟨a, vs, rfl, hq, rs⟩ := items_ok ok r e1
    exact ⟨a, vs, rfl, hq, (mkL_ok ok p rs).2⟩
def tupleD : List D → Sto → Res D := fun ds st => match ds with
  | [d] => (match itemsOf d st with
    | some xs => .ok (.tup xs) st
    | none => .bad)
  | _ => .bad
theorem gc_tuple : GC K (fun xs H Q => ∃ p ys, xs = [.ref p] ∧ ((SqL K H p ys ∧ ∀ l, H l = none → Q (.ref l) (upd H l (.tup ys))) ∨ (SqT K H p ys ∧ Q (.ref p) H))) tupleD := gc1 (fun _ => rfl) (fun _ _ _ _ => rfl) fun w x d Q E ok r p => by
  unfold tupleD at p
  cases e1 : itemsOf d w.st with
  | none => simp only [e1] at p; exact p.elim
  | some ds =>
    simp only [e1] at p
    cases r with
    | tup h ho hs => cases e1; exact ⟨_, _, rfl, .inr ⟨.inl h, PR.ret (R := Rep K) ok p (.tup h ho hs)⟩⟩
    | ktup h hs => cases e1; exact ⟨_, _, rfl, .inr ⟨h _, PR.ret (R := Rep K) ok p (.ktup h hs)⟩⟩
    | lst h hl ho hs => cases e1; exact ⟨_, _, rfl, .inl ⟨.inl (.inl h), fun l hn => PR.new ok hn p (rep_new_tup ok hn hs)⟩⟩
    | kscr h ht hs => cases e1; exact ⟨_, _, rfl, .inl ⟨h _, fun l hn => PR.new ok hn p (rep_new_tup ok hn hs)⟩⟩
    | scr h hl ho hs => cases e1; exact ⟨_, _, rfl, .inl ⟨.inl (.inr ⟨_, h⟩), fun l hn => PR.new ok hn p (rep_new_tup ok hn hs)⟩⟩
    | @ref a n h =>
      have e2 : listOf (.ref n) w.st = some ds := e1
      obtain ⟨b, vs, e3, hq, rs⟩ := list_ok ok (.ref h) e2
      cases e3
      exact ⟨a, vs, rfl, .inl ⟨.inl (.inl hq), fun l hn => PR.new ok hn p (rep_new_tup ok hn rs)⟩⟩
    | _ => cases e1
/-- int(x) of ints and truths -/
def intD : List D → Sto → Res D := fun ds st => match ds with
  | [.int i] => .ok (.int i) st
  | [.bl b] => .ok (.int (if b then 1 else 0)) st
  | _ => .bad
@[simp] theorem intD_int (i : Int) (st : Sto) : intD [.int i] st = .ok (.int i) st := rfl
@[simp] theorem intD_bl (b : Bool) (st : Sto) : intD [.bl b] st = .ok (.int (if b then 1 else 0)) st := rfl
theorem gc_int : GC K (fun xs H Q => (∃ i, xs = [.int i] ∧ Q (.int i) H) ∨ ∃ k, xs = [.bl k] ∧ Q (.int (if k then 1 else 0)) H) intD := fun w xs ds Q E ok rs p => by
  cases rs with
  | nil => exact p.elim
  | cons r t =>
    cases t with
    | cons _ _ => cases r <;> exact p.elim
    | nil =>
      cases r with
      | int i => exact .inl ⟨i, rfl, PR.ret (R := Rep K) ok p (.int i)⟩
      | bl b => exact .inr ⟨b, rfl, PR.ret (R := Rep K) ok p (.int _)⟩
      | _ => exact p.elim
def absD : List D → Sto → Res D := fun ds st => match ds with
  | [.int i] => .ok (.int (if i < 0 then -i else i)) st
  | _ => .bad
@[simp] theorem absD_int (i : Int) (st : Sto) : absD [.int i] st = .ok (.int (if i < 0 then -i else i)) st := rfl
theorem gc_abs : GC K (fun xs H Q => ∃ i, xs = [.int i] ∧ Q (.int (if i < 0 then -i else i)) H) absD := fun w xs ds Q E ok rs p => by
  cases rs with
  | nil => exact p.elim
  | cons r t =>
    cases t with
    | cons _ _ => cases r <;> exact p.elim
    | nil =>
      cases r with
      | int i => exact ⟨i, rfl, PR.ret (R := Rep K) ok p (.int _)⟩
      | _ => exact p.elim
def gcdD : List D → Sto → Res D := fun ds st => match ds with
  | [.int i, .int j] => .ok (.int (Nat.gcd i.natAbs j.natAbs : Nat)) st
  | _ => .bad
@[simp] theorem gcdD_int (i j : Int) (st : Sto) : gcdD [.int i, .int j] st = .ok (.int (Nat.gcd i.natAbs j.natAbs : Nat)) st := rfl
def minD : List D → Sto → Res D := fun ds st => match ds with
  | [.int i, .int j] => .ok (.int (if j < i then j else i)) st
  | _ => .bad
def maxD : List D → Sto → Res D := fun ds st => match ds with
  | [.int i, .int j] => .ok (.int (if j > i then j else i)) st
  | _ => .bad
@[simp] theorem minD_int (i j : Int) (st : Sto) : minD [.int i, .int j] st = .ok (.int (if j < i then j else i)) st := rfl
@[simp] theorem maxD_int (i j : Int) (st : Sto) : maxD [.int i, .int j] st = .ok (.int (if j > i then j else i)) st := rfl
theorem gc_2ints {f : Int → Int → D} {g : Int → Int → V} (h : ∀ w i j, Rep K w (g i j) (f i j)) : GC K (fun vs H Q => ∃ a b : Int, vs = [.int a, .int b] ∧ Q (g a b) H) (fun ds st => match ds with
  | [.int i, .int j] => .ok (f i j) st
  | _ => .bad) := fun w xs ds Q E ok rs p => by
  by_cases hs : ∃ i j, ds = [.int i, .int j]
  · obtain ⟨i, j, rfl⟩ := hs
    cases rs with
    | cons r t =>
      cases t with
      | cons r2 t2 =>
        cases t2
        cases r
        cases r2
        exact ⟨i, j, rfl, PR.ret (R := Rep K) ok p (h _ _ _)⟩
  · exfalso
    revert p
    simp only
    split <;> first | (rename_i i j; exact fun _ => hs ⟨i, j, rfl⟩) | exact fun z => z
theorem gc_gcd : GC K rGcd gcdD := gc_2ints (f := fun i j => .int (Nat.gcd i.natAbs j.natAbs : Nat)) fun _ _ _ => .int _
theorem gc_min : GC K (fun vs H Q => ∃ a b : Int, vs = [.int a, .int b] ∧ Q (.int (if b < a then b else a)) H) minD := gc_2ints (f := fun i j => .int (if j < i then j else i)) fun _ _ _ => .int _
theorem gc_max : GC K (fun vs H Q => ∃ a b : Int, vs = [.int a, .int b] ∧ Q (.int (if b > a then b else a)) H) maxD := gc_2ints (f := fun i j => .int (if j > i then j else i)) fun _ _ _ => .int _
/-- all, any of a list of truths -/
def allB : List D → Option (List Bool)
  | [] => some []
  | .bl b :: r => (allB r).map (b :: ·)
  | _ :: _ => none
theorem allB_ok {w : Wd} : ∀ {vs : List V} {ds : List D} {bs : List Bool}, Reps K w vs ds → allB ds = some bs → vs = bs.map V.bl
  | _, _, _, .nil, e => by cases e; rfl
  | _, _, bs, .cons r t, e => by
    cases r with
    | bl b =>
      simp only [allB, Option.map_eq_some_iff] at e
      obtain ⟨cs, e1, rfl⟩ := e
      rw [allB_ok t e1]
      rfl
    | _ => cases e
def allD : List D → Sto → Res D := fun ds st => match ds with
  | [.lst xs] => (match allB xs with
    | some bs => .ok (.bl (bs.all fun b => b)) st
    | none => .bad)
  | _ => .bad
theorem gc_all : GC K (rAll K) allD := gc1 (fun _ => rfl) (fun a _ _ _ => by cases a <;> rfl) fun w x d Q E ok r p => by
  cases r with
  | @lst a vs ds h hl ho hs =>
    unfold allD at p
    cases e1 : allB ds with
    | none => simp only [e1] at p; exact p.elim
    | some bs =>
      simp only [e1] at p
      have e2 := allB_ok hs e1
      rw [e2] at h
      exact ⟨a, bs, rfl, .inl (.inl h), PR.ret (R := Rep K) ok p (.bl _)⟩
  | _ => exact p.elim
end
/-! ### methods of built-in types -/
def GMt (K : Frag) (r : V → List V → Hp → VK → Prop) (g : D → List D → Sto → Res D) : Prop := ∀ (w : Wd) (x : V) (xs : List V) (d : D) (ds : List D) (Q : VK) (E : XK), Ok K w → Rep K w x d → Reps K w xs ds → PR K (Rep K) w (g d ds w.st) Q E → r x xs w.H Q
/-- T: "list" or "str" -/
def isT (T : String) (d : D) (st : Sto) : Bool := match d with
  | .str _ => T == "str"
  | .int _ => T == "int"
  | d => T == "list" && (listOf d st).isSome
@[simp] def eBM (T : String) (g : D → List D → Sto → Res D) (o : Em) (a : Am) : Em := fun σ st => (o σ st).bind fun d st1 => if isT T d st1 = true then (a σ st1).bind fun ds st2 => g d ds st2 else .bad
theorem isT_ok {K : Frag} {T : String} {w : Wd} {v : V} {d : D} (ok : Ok K w) (r : Rep K w v d) (h : isT T d w.st = true) : tyV K T v w.H := by
  have main : ∀ {v : V} {d : D}, Rep K w v d → (T == "list" && (listOf d w.st).isSome) = true → tyV K T v w.H := fun {v d} r h => by
    obtain ⟨h1, h2⟩ := Bool.and_eq_true_iff.mp h
    cases e : listOf d w.st with
    | none => rw [e] at h2; cases h2
    | some ds =>
      obtain ⟨a, vs, rfl, hq, rs⟩ := list_ok ok r e
      exact .inl ⟨eq_of_beq h1, vs, .inl (.inl hq)⟩
  cases r with
  | str z => exact eq_of_beq h
  | int i => exact eq_of_beq h
  | non => exact main .non h
  | bl b => exact main (.bl b) h
  | ty n => exact main (.ty n) h
  | tup h1 h2 h3 => exact main (.tup h1 h2 h3) h
  | ktup h1 h2 => exact main (.ktup h1 h2) h
  | lst h1 h2 h3 h4 => exact main (.lst h1 h2 h3 h4) h
  | scr h1 h2 h3 h4 => exact main (.scr h1 h2 h3 h4) h
  | kscr h1 h2 h3 => exact main (.kscr h1 h2 h3) h
  | ins h1 h2 h3 h4 h5 => exact main (.ins h1 h2 h3 h4 h5) h
  | exo h1 h2 hl hl2 ho ho2 hs hc => exact main (.exo h1 h2 hl hl2 ho ho2 hs hc) h
  | ref h1 => exact main (.ref h1) h
section
variable {X : Cx} {W : WX} {o e : Expr} {es : List Expr} {T id : String} {name : Str} {apos cpos : Pos} {r : V → List V → Hp → VK → Prop} {g : D → List D → Sto → Res D} {mo : Em} {ma : Am}
theorem se_bm (pa : PlainAttrs T) (slot : Slot T name id) (hty : typeOf (.builtin id) = pure (.type "method_descriptor")) (hm : MtR X id r) (hg : GMt X.K r g) (ho : SE X W o mo) (ha : SA X W (e :: es) ma)
    (hbase : attributeBase o name X.env (eval o X.env) = eval o X.env := by rfl)
    (hfew : ((backTo cpos (starEach (e :: es) X.env)).all (fun x => !x.1) && (backToKw cpos (keywordEach [] X.env)).all (fun x => x.1.isSome)
      && decide ((e :: es).length + ([] : List Keyword).length + (if ([] : List Keyword).isEmpty then 0 else 1) < 30)) = true := by rfl)
    (hline : (apos.endLine == cpos.line) = true := by rfl) (hs : starEach (e :: es) X.env = (false, eval e X.env) :: starEach es X.env := by rfl) (hplain : (backTo cpos (starEach es X.env)).any (·.1) = false := by rfl) :
    SE X W (.Call (.Attribute o name apos) (e :: es) [] cpos) (eBM T g mo ma) :=
  pe_imp (pe_bm pa slot hty hm ho ha hbase hfew hline hs hplain) fun σV H Q q => by
    obtain ⟨w, σ, rfl, ok, sl, p⟩ := q
    refine ⟨w, σ, rfl, ok, sl, PR.bind ok p fun d st x mu H1 e1 s1 ok1 r1 p1 => ?_⟩
    by_cases hT : isT T d st = true
    · rw [if_pos hT] at p1
      refine ⟨isT_ok (w := ⟨mu, st, H1, w.op⟩) ok1 r1 hT, ⟨mu, st, H1, w.op⟩, σ, rfl, ok1, sl.step s1 ok, PR.bind ok1 p1 fun ds st2 xs mu2 H2 e2 s2 ok2 r2 p2 => ?_⟩
      exact hg ⟨mu2, st2, H2, w.op⟩ x xs d ds Q _ ok2 (r1.step s2 ok1) r2 p2
    · rw [if_neg hT] at p1; exact p1.elim
theorem se_bm0 (pa : PlainAttrs T) (slot : Slot T name id) (hty : typeOf (.builtin id) = pure (.type "method_descriptor")) (hm : MtR X id r) (hg : GMt X.K r g) (ho : SE X W o mo)
    (hbase : attributeBase o name X.env (eval o X.env) = eval o X.env := by rfl) (hline : (apos.endLine == cpos.line) = true := by rfl) :
    SE X W (.Call (.Attribute o name apos) [] [] cpos) (eBM T g mo aNil) :=
  pe_imp (pe_bm0 pa slot hty hm ho hbase hline) fun σV H Q q => by
    obtain ⟨w, σ, rfl, ok, sl, p⟩ := q
    refine ⟨w, σ, rfl, ok, sl, PR.bind ok p fun d st x mu H1 e1 s1 ok1 r1 p1 => ?_⟩
    by_cases hT : isT T d st = true
    · rw [if_pos hT] at p1
      exact ⟨isT_ok (w := ⟨mu, st, H1, w.op⟩) ok1 r1 hT, hg ⟨mu, st, H1, w.op⟩ x [] d [] Q _ ok1 r1 .nil p1⟩
    · rw [if_neg hT] at p1; exact p1.elim
end
section
variable {K : Frag}
/-- a list of the store changed -/
def wrL (n : Nat) (ds : List D) (d : D) (st : Sto) : Res D := .ok d (st.set n (some (.lst ds)))
theorem wrL_ok {w : Wd} {n : Nat} {a : Addr} {ds0 ds : List D} {vs : List V} {d : D} {v : V} {Q : VK} {E : XK} (ok : Ok K w) (h : w.mu[n]? = some a) (e : w.st[n]? = some (some (.lst ds0))) (rs : Reps K w vs ds)
    (rd : ∀ w', Step w w' → Rep K w' v d) (p : PR K (Rep K) w (wrL n ds d w.st) Q E) : Q v (upd w.H a (.lst vs)) := by
  have s := wr_step (o := .lst vs) (u := .lst ds) h e
  exact p v w.mu (upd w.H a (.lst vs)) s (wr_ok ok h e ⟨vs, upd_same, rs.step s ok⟩) (rd _ s)
/-- an object of the store that is a list -/
theorem ref_lst {w : Wd} {x : V} {d : D} {n : Nat} {ds : List D} (ok : Ok K w) (r : Rep K w x d) (hd : d = .ref n) (e : w.st[n]? = some (some (.lst ds))) : ∃ a vs, x = .ref a ∧ w.mu[n]? = some a ∧ w.H a = some (.lst vs) ∧ Reps K w vs ds := by
  subst hd
  cases r with
  | @ref a _ h =>
    obtain ⟨vs, h1, h2⟩ := ok.obj n a _ h e
    exact ⟨a, vs, rfl, h, h1, h2⟩
def mutD (f : List D → List D → Option (D × List D)) : D → List D → Sto → Res D := fun d as st => match d with
  | .ref n => (match st[n]? with
    | some (some (.lst ds)) => (match f ds as with
      | some (r, ds') => wrL n ds' r st
      | none => .bad)
    | _ => .bad)
  | _ => .bad
theorem gmt_mut {r : V → List V → Hp → VK → Prop} {f : List D → List D → Option (D × List D)}
    (h : ∀ (w : Wd) (a : Addr) (n : Nat) (vs xs : List V) (ds as ds' : List D) (d : D) (Q : VK), Ok K w → w.H a = some (.lst vs) → Reps K w vs ds → Reps K w xs as → f ds as = some (d, ds') →
      (∀ v vs', Reps K w vs' ds' → (∀ w', Step w w' → Rep K w' v d) → Q v (upd w.H a (.lst vs'))) → r (.ref a) xs w.H Q) : GMt K r (mutD f) := fun w x xs d as Q E ok rd ra p => by
  unfold mutD at p
  cases rd with
  | @ref a n hn =>
    cases e1 : w.st[n]? with
    | none => simp only [e1] at p; exact p.elim
    | some o =>
      cases o with
      | none => simp only [e1] at p; exact p.elim
      | some o =>
        cases o with
        | ins C fs => simp only [e1] at p; exact p.elim
        | lst ds =>
          simp only [e1] at p
          cases e2 : f ds as with
          | none => simp only [e2] at p; exact p.elim
          | some q =>
            obtain ⟨d, ds'⟩ := q
            simp only [e2] at p
            obtain ⟨vs, h1, h2⟩ := ok.obj n a _ hn e1
            exact h w a n vs xs ds as ds' d Q ok h1 h2 ra e2 fun v vs' rs rv => wrL_ok ok hn e1 rs rv p
  | _ => exact p.elim
def fAppend : List D → List D → Option (D × List D) := fun ds as => match as with
  | [d] => if ds.length < line then some (.non, ds ++ [d]) else none
  | _ => none
theorem gmt_append : GMt K rAppend (mutD fAppend) := gmt_mut fun w a n vs xs ds as ds' d Q ok h rs ra e k => by
  cases ra with
  | nil => cases e
  | @cons v x _ _ r t =>
    cases t with
    | cons _ _ => cases e
    | nil =>
      unfold fAppend at e
      simp only at e
      split at e
      · rename_i hl
        cases e
        exact ⟨a, vs, v, rfl, rfl, h, by rw [rs.length, line_eq]; exact hl, k .non _ (rs.append (.cons r .nil)) fun _ _ => .non⟩
      · cases e
def fReverse : List D → List D → Option (D × List D) := fun ds as => match as with
  | [] => some (.non, ds.reverse)
  | _ => none
theorem gmt_reverse : GMt K rReverse (mutD fReverse) := gmt_mut fun w a n vs xs ds as ds' d Q ok h rs ra e k => by
  cases ra with
  | nil =>
    cases e
    exact ⟨a, vs, rfl, rfl, h, k .non _ rs.reverse fun _ _ => .non⟩
  | cons _ _ => cases e
def fClear : List D → List D → Option (D × List D) := fun ds as => match as with
  | [] => some (.non, [])
  | _ => none
theorem gmt_clear : GMt K rClear (mutD fClear) := gmt_mut fun w a n vs xs ds as ds' d Q ok h rs ra e k => by
  cases ra with
  | nil =>
    cases e
    exact ⟨a, vs, rfl, rfl, h, k .non _ .nil fun _ _ => .non⟩
  | cons _ _ => cases e
end
/-! ### o[i] = v -/
def setD : D → D → D → Sto → Option Sto := fun o i v st => match o, i with
  | .ref n, .int k => (match st[n]? with
    | some (some (.lst ds)) => (match ixN ds.length k with
      | some j => some (st.set n (some (.lst (ds.set j v))))
      | none => none)
    | _ => none)
  | _, _ => none
@[simp] def sSetIx (m o i : Em) : Sm := fun σ st => (m σ st).toRS σ fun v st1 => (o σ st1).toRS σ fun x st2 => (i σ st2).toRS σ fun y st3 => match setD x y v st3 with
  | some st4 => .nx σ st4
  | none => .bad
section
variable {X : Cx} {W : WX} {e o i : Expr} {m mo mi : Em} {pos tpos : Pos}
theorem ss_setix (he : SE X W e m) (ho : SE X W o mo) (hi : SE X W i mi) (ha : ∀ v, assign (.Subscript o i tpos) X.env v = (do
      let ov ← holding [v] (eval o X.env)
      let iv ← holding [v, ov] (eval i X.env)
      standAt tpos
      holding [v, ov, iv] (setItem ov iv v)
      release [v, ov, iv] []) := by intro _; rfl) (hs : swapsWithSole [.Subscript o i tpos] e pos.line X.env = pure false := by rfl) (hw : swappedStores [.Subscript o i tpos] e X.env = pure none := by rfl)
    (h1 : (assignEach [.Subscript o i tpos] X.env).map (·.2) = [assign (.Subscript o i tpos) X.env] := by rfl) : SS X W (.Assign [.Subscript o i tpos] e pos) (sSetIx m mo mi) :=
  ps_imp (ps_asg he (pg_sub ho hi set_list ha) hs hw h1) fun D σV H q => by
    obtain ⟨w, σ, rfl, ok, sl, p⟩ := q
    refine ⟨w, σ, rfl, ok, sl, PSr.toR ok sl p fun d st v mu H1 e1 s1 ok1 r1 p1 => ?_⟩
    have sl1 := sl.step s1 ok
    refine ⟨⟨mu, st, H1, w.op⟩, σ, rfl, ok1, sl1, PSr.toR ok1 sl1 p1 fun d2 st2 ov mu2 H2 e2 s2 ok2 r2 p2 => ?_⟩
    have sl2 := sl1.step s2 ok1
    refine ⟨⟨mu2, st2, H2, w.op⟩, σ, rfl, ok2, sl2, PSr.toR ok2 sl2 p2 fun d3 st3 iv mu3 H3 e3 s3 ok3 r3 p3 => ?_⟩
    have sl3 := sl2.step s3 ok2
    have rv := (r1.step s2 ok1).step s3 ok2
    have ro := r2.step s3 ok2
    unfold setD at p3
    cases ro with
    | @ref a n hn =>
      cases r3 with
      | int k =>
        simp only at p3
        cases q1 : st3[n]? with
        | none => simp only [q1] at p3; exact p3.elim
        | some u =>
          cases u with
          | none => simp only [q1] at p3; exact p3.elim
          | some u =>
            cases u with
            | ins C fs => simp only [q1] at p3; exact p3.elim
            | lst ds =>
              simp only [q1] at p3
              cases q2 : ixN ds.length k with
              | none => simp only [q2] at p3; exact p3.elim
              | some j =>
                simp only [q2] at p3
                obtain ⟨vs, h1, h2⟩ := ok3.obj n a _ hn q1
                refine ⟨a, vs, k, j, rfl, rfl, h1, by rw [h2.length]; exact q2, ?_⟩
                have s := wr_step (w := ⟨mu3, st3, H3, w.op⟩) (o := .lst (vs.set j v)) (u := .lst (ds.set j d)) hn q1
                exact p3 σV mu3 _ s (wr_ok (w := ⟨mu3, st3, H3, w.op⟩) ok3 hn q1 ⟨_, upd_same, (h2.set rv j).step s ok3⟩) (sl3.step s ok3)
      | _ => exact p3.elim
    | _ => exact p3.elim
end
/-! ### lists put together, repeated -/
def catL (k : Bool) : D → D → Sto → Res D := fun x y st => match listOf x st, listOf y st with
  | some a, some b => mkL k (a ++ b) st
  | _, _ => .bad
def repL (k : Bool) : D → D → Sto → Res D := fun x y st => match y with
  | .int n => (match listOf x st with
    | some a => if (decide (-(2 ^ 63) ≤ n) && (decide (n < 2 ^ 63) && decide (a.length * n.toNat ≤ line))) = true then mkL k (List.replicate n.toNat a).flatten st else .bad
    | none => .bad)
  | _ => .bad
theorem Reps.rep {K : Frag} {w : Wd} {vs : List V} {ds : List D} (r : Reps K w vs ds) : ∀ n : Nat, Reps K w (List.replicate n vs).flatten (List.replicate n ds).flatten
  | 0 => .nil
  | n + 1 => by
    rw [List.replicate_succ, List.replicate_succ, List.flatten_cons, List.flatten_cons]
    exact r.append (Reps.rep r n)
section
variable {X : Cx} {W : WX} {a b : Expr} {ma mb : Em} {pos : Pos}
theorem se_cat {k : Bool} (ha : SE X W a ma) (hb : SE X W b mb) : SE X W (.BinOp a .Add b pos) (eBin (catL k) ma mb) := se_bin op_cat (by
  intro w x y dx dy Q E ok rx ry p
  unfold catL at p
  cases e1 : listOf dx w.st with
  | none => rw [e1] at p; exact p.elim
  | some u =>
    cases e2 : listOf dy w.st with
    | none => rw [e1, e2] at p; exact p.elim
    | some v =>
      rw [e1, e2] at p
      obtain ⟨a1, vs, rfl, h1, r1⟩ := list_ok ok rx e1
      obtain ⟨a2, us, rfl, h2, r2⟩ := list_ok ok ry e2
      obtain ⟨hl, q⟩ := mkL_ok ok p (r1.append r2)
      rw [List.length_append] at hl
      exact ⟨a1, a2, vs, us, rfl, rfl, h1, h2, hl, q⟩) ha hb
theorem se_rep {k : Bool} (ha : SE X W a ma) (hb : SE X W b mb) : SE X W (.BinOp a .Mult b pos) (eBin (repL k) ma mb) := se_bin op_rep (by
  intro w x y dx dy Q E ok rx ry p
  cases ry with
  | int n =>
    unfold repL at p
    simp only at p
    cases e1 : listOf dx w.st with
    | none => rw [e1] at p; exact p.elim
    | some u =>
      rw [e1] at p
      simp only at p
      split at p
      · rename_i hh
        simp only [Bool.and_eq_true, decide_eq_true_eq] at hh
        obtain ⟨a1, vs, rfl, h1, r1⟩ := list_ok ok rx e1
        exact ⟨a1, n, vs, rfl, rfl, h1, hh.1, hh.2.1, by rw [r1.length, line_eq]; exact hh.2.2, (mkL_ok ok p (r1.rep n.toNat)).2⟩
      · exact p.elim
  | _ => exact p.elim) ha hb
end
end Sim

set_option Elab.async false
set_option linter.all false
set_option maxRecDepth 100000
set_option maxHeartbeats 4000000
/-! defs by name, isinstance, in, join -/
namespace Sim
open PySem PySem.Spec PyProof.Rows L2

/-! ### a def, by its name -/
def chk (n : Nat) (m : List D → Sto → Res D) : List D → Sto → Res D := fun ds st => if ds.length = n then m ds st else .bad
theorem chk_len {n : Nat} {m : List D → Sto → Res D} (ds : List D) (st : Sto) (h : chk n m ds st ≠ .bad) : ds.length = n := by
  unfold chk at h
  by_cases e : ds.length = n
  · exact e
  · rw [if_neg e] at h; exact absurd rfl h
structure Fn (P : Program) (w : World) (K : Frag) (mg : Str → Option Value) (base : Heap) (x : Str) (k n : Nat) (m : List D → Sto → Res D) : Prop where
  ex : ∃ (fd : FuncData) (ps : List Str), FnOk P w K mg base (CXp P w) k (He.ga K x) fd ps (spM K n m) ∧ Binds K fd ps []
  glo : mg x = some (.ref (He.ga K x))
  kp : PySem.W.keepIn K (.ref (He.ga K x)) = true
  len : ∀ ds st, m ds st ≠ .bad → ds.length = n
section
variable {X : Cx} {W : WX} {j k n : Nat} {x : Str} {p pos : Pos} {e : Expr} {es : List Expr} {ma : Am} {m : List D → Sto → Res D}
theorem se_fn (F : Fn X.prog X.w X.K X.mg X.base x k n m) (hr : Room j X.A) (hk : k ≤ j) (tk : Takes X W) (ha : SA X W (e :: es) ma)
    (hg : Gl X x := by rfl) (hdb : (x == ("__debug__" : Str)) = false := by decide) (he : starEach (e :: es) X.env = (false, eval e X.env) :: starEach es X.env := by rfl) (hpl : (backTo pos (starEach es X.env)).any (·.1) = false := by rfl) :
    SE X W (.Call (.Name x p) (e :: es) [] pos) (eCall m ma []) := by
  obtain ⟨fd, ps, G, hb⟩ := F.ex
  exact se_call G (hr.mono hk) F.glo F.kp hb .nil tk F.len (fun _ _ => .nil) ha hg hdb he hpl
end
section
variable {P : Program} {wd : World} {K : Frag} {mg : Str → Option Value} {base : Heap}
theorem runDef_chk {K : Frag} {N n : Nat} {m : Sm} : spM K n (chk n (runDef N m)) = spM K n (runDef N m) := by
  funext vs H Q E
  refine propext ⟨fun ⟨w, ds, a, b, c, l, p⟩ => ⟨w, ds, a, b, c, l, by unfold chk at p; rw [if_pos l] at p; exact p⟩, fun ⟨w, ds, a, b, c, l, p⟩ => ⟨w, ds, a, b, c, l, by unfold chk; rw [if_pos l]; exact p⟩⟩
/-- a def of the text, known by its name -/
theorem fn_name {x qual : Str} {params : Arguments} {body : List Stmt} {scope : Scope} {fd : FuncData} {N ps : List Str} {k : Nat} {m : Sm}
    (F : FunD K x qual params body scope [] [] (He.ga K x) fd) (S : FnScope N ps scope) (hg : mg x = some (.ref (He.ga K x))) (b : Binds K fd ps [])
    (hb : ∀ (cdv : Value) (A : Around) (outer : List Env) (s : Shared) (H : Hp) (E : XK), Room k (A.deeper (envOfC qual scope s.heap.objs.size (He.ga K x) cdv)) →
      SSs (cxOf (CXp P wd) P wd K mg base N qual scope (He.ga K x) cdv A outer s H E) (wOf E) body m) : Fn P wd K mg base x (k + 1) ps.length (chk ps.length (runDef N.length m)) :=
  ⟨⟨fd, ps, by rw [runDef_chk]; exact fn_sim F S hb, b⟩, hg, F.kp, chk_len⟩
theorem cx_takes {N : List Str} {qual : Str} {scope : Scope} {f : Addr} {cdv : Value} {A : Around} {outer : List Env} {s : Shared} {H : Hp} {E : XK} :
    Takes (cxOf (CXp P wd) P wd K mg base N qual scope f cdv A outer s H E) (wOf E) := takes_of rfl rfl rfl rfl
theorem cx_own {N : List Str} {qual : Str} {scope : Scope} {f : Addr} {cdv : Value} {A : Around} {outer : List Env} {s : Shared} {H : Hp} {E : XK} :
    PassesOwn (model P wd) (cxOf (CXp P wd) P wd K mg base N qual scope f cdv A outer s H E).A (cxOf (CXp P wd) P wd K mg base N qual scope f cdv A outer s H E).env (cxOf (CXp P wd) P wd K mg base N qual scope f cdv A outer s H E).xe :=
  passes_of (X := cxOf (CXp P wd) P wd K mg base N qual scope f cdv A outer s H E) rfl
/-- no mirror: nothing is promised -/
def mBad : Sm := fun _ _ => .bad
theorem sss_bad {X : Cx} {W : WX} {body : List Stmt} (h : ∃ t, PSs X body t) : SSs X W body mBad := by
  obtain ⟨t, h⟩ := h
  exact pss_imp h fun D σV H ⟨w, σ, e, ok, sl, p⟩ => p.elim
theorem sss_bad' {X : Cx} {W : WX} {body : List Stmt} {m : Sm} (h : SSs X W body m) : SSs X W body mBad := sss_bad ⟨_, h⟩
end

/-! ### isinstance -/
inductive Tg where
  | b (n : String) | c (C : Str)
def Tg.val (K : Frag) : Tg → Value
  | .b n => .type n
  | .c C => .ref (He.ga K C)
def tgOf (d : D) (st : Sto) : Option Tg := match d with
  | .non => some (.b "NoneType")
  | .bl _ => some (.b "bool")
  | .int _ => some (.b "int")
  | .str _ => some (.b "str")
  | .tup _ => some (.b "tuple")
  | .lst _ => some (.b "list")
  | .scr _ => some (.b "list")
  | .ins C _ => some (.c C)
  | .ref n => match st[n]? with
    | some (some (.lst _)) => some (.b "list")
    | some (some (.ins C _)) => some (.c C)
    | _ => none
  | .ty _ => none
section
variable {X : Cx} {pins : List (Addr × Obj)} {σ : L2.St} {H : Hp} {s : Shared}
theorem kit_rep {w : Wd} {x : V} {d : D} {u : Value} {t : Tg} (I : Inv X pins σ H s) (rx : RelV x u) (hH : w.H = H) (ok : Ok X.K w) (r : Rep X.K w x d) (ht : tgOf d w.st = some t) :
    ∃ P : Heap → Prop, PySem.W.KitX X.K u (t.val X.K) P ∧ P s.heap ∧ u ≠ .builtin "__main__.__loader__#opaque" := by
  subst hH
  cases r with
  | non => cases ht; exact kit_of I rx (.base .non)
  | bl b => cases ht; exact kit_of I rx (.base (.bl b))
  | int i => cases ht; exact kit_of I rx (.base (.int i))
  | str z => cases ht; exact kit_of I rx (.base (.str z))
  | ty n => cases ht
  | tup h ho hs =>
    cases ht
    rcases h with h | ⟨o, h⟩
    · exact kit_of I rx (.base (.tup h))
    · exact kit_of I rx (.fTuple h)
  | ktup h hs =>
    cases ht
    rcases h w.H with h | ⟨o, its, n, h1, h2, _⟩
    · rcases h with h | ⟨o, h⟩
      · exact kit_of I rx (.base (.tup h))
      · exact kit_of I rx (.fTuple h)
    · exact kit_of I rx (.kTuple h1 h2)
  | lst h hl ho hs => cases ht; exact kit_of I rx (.base (.lst h))
  | scr h hl ho hs => cases ht; exact kit_of I rx (.base (.frz h))
  | kscr h h2 hs => cases ht; obtain ⟨o, h3, h4⟩ := h2; exact kit_of I rx (.kList h3 h4)
  | ins h hl ho hs hc => cases ht; exact kit_of I rx (.base (.ins h hc.cls hc.cn hc.gt hc.tk hc.ob))
  | @exo a dx C fv fs h h2 hl hl2 ho ho2 hs hc =>
    cases ht
    cases (show u = Value.ref a from rx)
    have hx : ObjOk X.prog X.w w.H s.heap dx (.xd fv) := I.hok dx _ h2
    obtain ⟨mA, hns, hr⟩ := hx
    obtain ⟨od, hod, hl⟩ := lookIn_ns hns
    have z : ObjOk X.prog X.w w.H s.heap a (xo a (He.ga X.K C) dx) := I.hok a _ h
    obtain ⟨⟨o, vs, e1, e2, e3, e4⟩, _⟩ := z
    have J : PySem.W.InstAt s.heap a o (He.ga X.K C) (some od) := ⟨e1, e2, by unfold PySem.W.notCls; rw [e4] <;> rfl, by rw [e3]; exact hod⟩
    exact ⟨_, PySem.W.kitx_exc hc.cl hc.ga hc.gg hc.exC hc.cn hc.gt hc.tk hc.ob, J, fun z => nomatch z⟩
  | @ref a n h =>
    unfold tgOf at ht
    cases e : w.st[n]? with
    | none => simp only [e] at ht; cases ht
    | some o =>
      cases o with
      | none => simp only [e] at ht; cases ht
      | some o =>
        have ro := ok.obj n a o h e
        cases o with
        | lst ds =>
          simp only [e] at ht
          cases ht
          obtain ⟨vs, h1, h2⟩ := ro
          exact kit_of I rx (.base (.lst h1))
        | ins C fs =>
          simp only [e] at ht
          cases ht
          obtain ⟨dx, fv, h1, h2, hc⟩ := ro
          exact kit_of I rx (.base (.ins h1 hc.cls hc.cn hc.gt hc.tk hc.ob))
end
def rIsW (K : Frag) : List V → Hp → VK → Prop := fun xs H Q => ∃ (w : Wd) (x c : V) (d : D) (t : Tg) (u : Value) (b : Bool), xs = [x, c] ∧ w.H = H ∧ Ok K w ∧ Rep K w x d ∧ tgOf d w.st = some t ∧ ClsV c u ∧ PySem.W.kitOne K (t.val K) u = some b ∧ Q (.bl b) H
def rIsWT (K : Frag) : List V → Hp → VK → Prop := fun xs H Q => ∃ (w : Wd) (x : V) (tp : Addr) (cs : List V) (d : D) (t : Tg) (us : List Value) (b : Bool), xs = [x, .ref tp] ∧ w.H = H ∧ Ok K w ∧ Rep K w x d ∧ tgOf d w.st = some t ∧ H tp = some (.tup cs) ∧ Paired ClsV cs us ∧ PySem.W.kitAny K (t.val K) us = some b ∧ Q (.bl b) H
section
variable {X : Cx} {W : WX}
theorem call_isW : CallR X (.builtin "isinstance") (rIsW X.K) := by
  intro pins s σ H xs us Q I r h
  obtain ⟨w, x, c, d, t, u, b, rfl, hH, ok, rx, ht, k, e, q⟩ := h
  obtain ⟨u1, u2, rfl, r1, r2⟩ := vals2 r
  have e2 := k.eq r2
  subst e2
  obtain ⟨P, Z, p, hx⟩ := kit_rep I r1 hH ok rx ht
  exact PySem.W.kia_one Z I.kIn p e hx fun tk => ⟨.bl b, H, I.tok tk, rfl, q⟩
theorem call_isWT : CallR X (.builtin "isinstance") (rIsWT X.K) := by
  intro pins s σ H xs us Q I r h
  obtain ⟨w, x, tp, cs, d, t, ws, b, rfl, hH, ok, rx, ht, hT, k, e, q⟩ := h
  obtain ⟨u1, u2, rfl, r1, r2⟩ := vals2 r
  cases (show u2 = Value.ref tp from r2)
  obtain ⟨P, Z, p, hx⟩ := kit_rep I r1 hH ok rx ht
  obtain ⟨_, its, rv, o, h1, h2, n, h3⟩ := (show ObjOk X.prog X.w H s.heap tp (.tup cs) from I.hok tp _ hT)
  have e3 := ClsV.all k rv
  subst e3
  obtain ⟨oc, od, dt, sl⟩ := o
  simp only at h2 h3
  subst h2 h3
  exact PySem.W.kia_tup Z I.kIn p h1 e hx fun tk => ⟨.bl b, H, I.tok tk, rfl, q⟩
def isiD (f : Tg → Option Bool) : D → Sto → Res D := fun d st => match tgOf d st with
  | some t => (match f t with
    | some b => .ok (.bl b) st
    | none => .bad)
  | none => .bad
/-- a class, as it is written -/
structure ClsE (X : Cx) (e : Expr) (c : V) (u : Value) : Prop where
  ev : PE X e (tC c)
  cv : ClsV c u
theorem cls_ty {x : Str} {T : String} {pos : Pos} (hm : X.mg x = none) (hg : Gl X x := by rfl) (hv : bootBuiltins x = some (.type T) := by decide +kernel) (hn : x ≠ "__name__" := by decide) (hd : (x == ("__debug__" : Str)) = false := by decide) : ClsE X (.Name x pos) (.ty T) (.type T) :=
  ⟨pe_bltn hg hm hv rfl hn hd, .ty T⟩
theorem cls_own {x : Str} {pos : Pos} (hm : X.mg x = some (.ref (He.ga X.K x))) (hg : Gl X x := by rfl) (hd : (x == ("__debug__" : Str)) = false := by decide) : ClsE X (.Name x pos) (.ref (He.ga X.K x)) (.ref (He.ga X.K x)) :=
  ⟨pe_glob hg hm rfl hd, .own _⟩
theorem se_isi {e ce : Expr} {m : Em} {c : V} {u : Value} {f : Tg → Option Bool} {p pos : Pos} (hm : X.mg "isinstance" = none) (he : SE X W e m) (hc : ClsE X ce c u) (hf : ∀ t b, f t = some b → PySem.W.kitOne X.K (t.val X.K) u = some b)
    (hg : Gl X "isinstance" := by rfl) (hs : starEach [e, ce] X.env = (false, eval e X.env) :: starEach [ce] X.env := by rfl) (hs1 : starEach [ce] X.env = (false, eval ce X.env) :: starEach [] X.env := by rfl) (hpl : (backTo pos (starEach [ce] X.env)).any (·.1) = false := by rfl) :
    SE X W (.Call (.Name "isinstance" p) [e, ce] [] pos) (eUn (isiD f) m) :=
  pe_imp (pe_callB call_isW hg hm (by decide +kernel) (pa_cons he (pa_cons hc.ev pa_nil hs1) hs) (by decide) (by decide) hs hpl) fun σV H Q q => by
    obtain ⟨w, σ, rfl, ok, sl, p⟩ := q
    refine ⟨w, σ, rfl, ok, sl, PR.bind ok p fun d st x mu H1 e1 s1 ok1 r1 p1 => ?_⟩
    unfold isiD at p1
    cases e2 : tgOf d st with
    | none => rw [e2] at p1; exact p1.elim
    | some t =>
      cases e3 : f t with
      | none => simp only [e2, e3] at p1; exact p1.elim
      | some b =>
        simp only [e2, e3] at p1
        exact ⟨⟨mu, st, H1, w.op⟩, x, c, d, t, u, b, rfl, rfl, ok1, r1, e2, hc.cv, hf t b e3, PR.ret (R := Rep X.K) ok1 p1 (.bl b)⟩
theorem se_isi2 {e ce de : Expr} {m : Em} {c c2 : V} {u u2 : Value} {f : Tg → Option Bool} {p pos tp : Pos} {kt} (hm : X.mg "isinstance" = none) (he : SE X W e m) (hc : ClsE X ce c u) (hc2 : ClsE X de c2 u2) (hf : ∀ t b, f t = some b → PySem.W.kitAny X.K (t.val X.K) [u, u2] = some b)
    (hg : Gl X "isinstance" := by rfl) (hs : starEach [e, .Tuple [ce, de] kt tp] X.env = (false, eval e X.env) :: starEach [.Tuple [ce, de] kt tp] X.env := by rfl)
    (hs1 : starEach [.Tuple [ce, de] kt tp] X.env = (false, eval (.Tuple [ce, de] kt tp) X.env) :: starEach [] X.env := by rfl) (hpl : (backTo pos (starEach [.Tuple [ce, de] kt tp] X.env)).any (·.1) = false := by rfl)
    (ht1 : starEach [ce, de] X.env = (false, eval ce X.env) :: starEach [de] X.env := by rfl) (ht2 : starEach [de] X.env = (false, eval de X.env) :: starEach [] X.env := by rfl) :
    SE X W (.Call (.Name "isinstance" p) [e, .Tuple [ce, de] kt tp] [] pos) (eUn (isiD f) m) :=
  pe_imp (pe_callB call_isWT hg hm (by decide +kernel) (pa_cons he (pa_cons (pe_tup (pa_cons hc.ev (pa_cons hc2.ev pa_nil ht2) ht1)) pa_nil hs1) hs) (by decide) (by decide) hs hpl) fun σV H Q q => by
    obtain ⟨w, σ, rfl, ok, sl, p⟩ := q
    refine ⟨w, σ, rfl, ok, sl, PR.bind ok p fun d st x mu H1 e1 s1 ok1 r1 p1 => ?_⟩
    unfold isiD at p1
    cases e2 : tgOf d st with
    | none => rw [e2] at p1; exact p1.elim
    | some t =>
      cases e3 : f t with
      | none => simp only [e2, e3] at p1; exact p1.elim
      | some b =>
        simp only [e2, e3] at p1
        refine ⟨by rw [sizeLine_eq]; exact (by decide : 2 ≤ 16777216), fun q hq => ?_⟩
        have ok2 := put_ok (o := .tup [c, c2]) ok1 hq
        have s2 := put_step (w := ⟨mu, st, H1, w.op⟩) (o := .tup [c, c2]) hq
        exact ⟨Wd.put ⟨mu, st, H1, w.op⟩ q (.tup [c, c2]), x, q, [c, c2], d, t, [u, u2], b, rfl, rfl, ok2, r1.step s2 ok1, e2, upd_same, .cons hc.cv (.cons hc2.cv .nil), hf t b e3, PR.new (K := X.K) (w := ⟨mu, st, H1, w.op⟩) (v := .bl b) ok1 hq p1 (.bl b)⟩
def tyNames : List String := ["NoneType", "bool", "int", "str", "tuple", "list"]
/-- a built-in type T's instances -/
def isB (T : String) (cs : List Str) : Tg → Option Bool
  | .b n => if n ∈ tyNames then some (n == T || (n == "bool" && T == "int")) else none
  | .c C => if C ∈ cs then some false else none
def isB2 (T U : String) (cs : List Str) : Tg → Option Bool
  | .b n => if n ∈ tyNames then some ((n == T || (n == "bool" && T == "int")) || (n == U || (n == "bool" && U == "int"))) else none
  | .c C => if C ∈ cs then some false else none
theorem kit_b {K : Frag} {n T : String} (hn : n ∈ tyNames) (hT : T ∈ ["bool", "int", "str", "tuple", "list"]) : PySem.W.kitOne K (.type n) (.type T) = some (n == T || (n == "bool" && T == "int")) := by
  have key : (tyNames.all fun n => ["bool", "int", "str", "tuple", "list"].all fun T => decide (PySem.W.kitOne K (.type n) (.type T) = some (n == T || (n == "bool" && T == "int")))) = true := by kernel_rfl
  exact of_decide_eq_true (List.all_eq_true.mp (List.all_eq_true.mp key n hn) T hT)
theorem isB_ok {K : Frag} {T : String} {cs : List Str} (hT : T ∈ ["bool", "int", "str", "tuple", "list"]) (hc : ∀ C ∈ cs, PySem.W.kitOne K (.ref (He.ga K C)) (.type T) = some false) (t : Tg) (b : Bool) (h : isB T cs t = some b) : PySem.W.kitOne K (t.val K) (.type T) = some b := by
  cases t with
  | b n =>
    have h : (if n ∈ tyNames then some (n == T || (n == "bool" && T == "int")) else none) = some b := h
    by_cases hn : n ∈ tyNames
    · rw [if_pos hn] at h
      rw [← h]
      exact kit_b hn hT
    · rw [if_neg hn] at h; cases h
  | c C =>
    have h : (if C ∈ cs then some false else none) = some b := h
    by_cases hC : C ∈ cs
    · rw [if_pos hC] at h
      rw [← h]
      exact hc C hC
    · rw [if_neg hC] at h; cases h
theorem isB2_ok {K : Frag} {T U : String} {cs : List Str} (hT : T ∈ ["bool", "int", "str", "tuple", "list"]) (hU : U ∈ ["bool", "int", "str", "tuple", "list"]) (hc : ∀ C ∈ cs, PySem.W.kitOne K (.ref (He.ga K C)) (.type T) = some false) (hc2 : ∀ C ∈ cs, PySem.W.kitOne K (.ref (He.ga K C)) (.type U) = some false) (t : Tg) (b : Bool) (h : isB2 T U cs t = some b) :
    PySem.W.kitAny K (t.val K) [.type T, .type U] = some b := by
  have key : ∀ {v : Value} {p q : Bool}, PySem.W.kitOne K v (.type T) = some p → PySem.W.kitOne K v (.type U) = some q → PySem.W.kitAny K v [.type T, .type U] = some (p || q) := fun {v p q} h1 h2 => by
    unfold PySem.W.kitAny
    rw [h1]
    cases p with
    | true => rfl
    | false =>
      unfold PySem.W.kitAny
      simp only [h2]
      cases q <;> rfl
  cases t with
  | b n =>
    have h : (if n ∈ tyNames then some ((n == T || (n == "bool" && T == "int")) || (n == U || (n == "bool" && U == "int"))) else none) = some b := h
    by_cases hn : n ∈ tyNames
    · rw [if_pos hn] at h
      rw [← h]
      exact key (kit_b hn hT) (kit_b hn hU)
    · rw [if_neg hn] at h; cases h
  | c C =>
    have h : (if C ∈ cs then some false else none) = some b := h
    by_cases hC : C ∈ cs
    · rw [if_pos hC] at h
      rw [← h]
      exact key (hc C hC) (hc2 C hC)
    · rw [if_neg hC] at h; cases h
end

/-! ### in -/
def allS : List D → Option (List Str)
  | [] => some []
  | .str s :: r => (allS r).map (s :: ·)
  | _ => none
theorem allS_ok {K : Frag} {w : Wd} : ∀ {vs : List V} {ds : List D} {bs : List Str}, Reps K w vs ds → allS ds = some bs → vs = bs.map V.str
  | _, _, _, .nil, e => by cases e; rfl
  | _, _, _, .cons r t, e => by
    cases r with
    | str s =>
      unfold allS at e
      cases q : allS _ with
      | none => rw [q] at e; cases e
      | some l =>
        rw [q] at e
        cases e
        rw [allS_ok t q]
        rfl
    | _ => cases e
/-- x in (a tuple or list of texts) -/
def inSD (neg : Bool) : D → D → Sto → Res D := fun x y st => match x, itemsOf y st with
  | .str s, some ds => (match allS ds with
    | some ss => .ok (.bl (xor neg (decide (s ∈ ss)))) st
    | none => .bad)
  | _, _ => .bad
theorem inV_str (s : Str) (ss : List Str) : inV (.str s) (ss.map V.str) = decide (s ∈ ss) := by
  induction ss with
  | nil => rfl
  | cons a l ih =>
    have e : inV (.str s) ((a :: l).map V.str) = ((a == s) || inV (.str s) (l.map V.str)) := rfl
    rw [e, ih]
    by_cases h : a = s
    · subst h; simp
    · have h2 : ¬ s = a := fun z => h z.symm
      simp [h, h2]
theorem gop_inS {K : Frag} {neg : Bool} : GOp K (rIn K neg) (inSD neg) := by
  intro w x y dx dy Q E ok rx ry p
  unfold inSD at p
  cases rx with
  | str s =>
    cases e : itemsOf dy w.st with
    | none => simp only [e] at p; exact p.elim
    | some ds =>
      simp only [e] at p
      obtain ⟨a, vs, rfl, hq, rs⟩ := items_ok ok ry e
      cases e2 : allS ds with
      | none => simp only [e2] at p; exact p.elim
      | some ss =>
        simp only [e2] at p
        have e3 := allS_ok rs e2
        subst e3
        refine ⟨a, _, rfl, hq, rfl, ?_, ?_⟩
        · rw [List.all_map]; exact List.all_eq_true.mpr fun _ _ => rfl
        · have z := PR.ret (R := Rep K) ok p (.bl _)
          rw [inV_str]
          cases neg with
          | true => simpa using z
          | false => simpa using z
  | _ => exact p.elim
section
variable {X : Cx} {W : WX} {a b : Expr} {ma mb : Em} {pos : Pos}
theorem se_inS (ha : SE X W a ma) (hb : SE X W b mb) (hm : behindInMarks .In b = false := by rfl) : SE X W (.Compare a [.In] [b] pos) (eBin (inSD false) ma mb) := se_cmp op_in_seq gop_inS ha hb hm
theorem st_inS (ha : SE X W a ma) (hb : SE X W b mb) (hm : behindInMarks .In b = false := by rfl) : ST X W (.Compare a [.In] [b] pos) (tOf (eBin (inSD false) ma mb)) := st_cmp op_in_seq gop_inS ha hb hm
/-! ### join -/
def joinD (a : Str) (x : D) (st : Sto) : Res D := match itemsOf x st with
  | some ds => (match allS ds with
    | some ys => if (ys.map (·.length)).sum + ys.length * a.length ≤ 16777216 then .ok (.str (Txt.join a ys)) st else .bad
    | none => .bad)
  | _ => .bad
def eJoin (ma mb : Em) : Em := fun σ st => (ma σ st).bind fun x st1 => match x with
  | .str a => (mb σ st1).bind fun y st2 => joinD a y st2
  | _ => .bad
theorem joinD_ok {w : Wd} {z : Str} {d : D} {y : V} {Q : VK} {E : XK} (ok : Ok X.K w) (r : Rep X.K w y d) (p : PR X.K (Rep X.K) w (joinD z d w.st) Q E) :
    ∃ a p, ∃ ys : List Str, V.str z = .str a ∧ [y] = [V.ref p] ∧ (SqL X.K w.H p (ys.map V.str) ∨ SqT X.K w.H p (ys.map V.str)) ∧ (ys.map (·.length)).sum + ys.length * a.length ≤ 16777216 ∧ Q (.str (Txt.join a ys)) w.H := by
  unfold joinD at p
  cases e : itemsOf d w.st with
  | none => rw [e] at p; exact p.elim
  | some ds =>
    rw [e] at p
    obtain ⟨q, vs, rfl, hq, rs⟩ := items_ok ok r e
    cases e2 : allS ds with
    | none => simp only [e2] at p; exact p.elim
    | some ss =>
      simp only [e2] at p
      have e3 := allS_ok rs e2
      subst e3
      by_cases hl : (ss.map (·.length)).sum + ss.length * z.length ≤ 16777216
      · rw [if_pos hl] at p
        exact ⟨z, q, ss, rfl, rfl, hq, hl, PR.ret (R := Rep X.K) ok p (.str _)⟩
      · rw [if_neg hl] at p
        exact p.elim
theorem se_join {apos : Pos} (ho : SE X W a ma) (he : SE X W b mb) (hs : starEach [b] X.env = [(false, eval b X.env)] := by rfl) (hbase : attributeBase a "join" X.env (eval a X.env) = eval a X.env := by rfl) (hline : (apos.endLine == pos.line) = true := by rfl) :
    SE X W (.Call (.Attribute a "join" apos) [b] [] pos) (eJoin ma mb) := pe_imp (pe_join ho he hs hbase hline) fun σV H Q q => by
  obtain ⟨w, σ, rfl, ok, sl, p⟩ := q
  refine ⟨w, σ, rfl, ok, sl, PR.bind ok p fun d st x mu H1 e1 s1 ok1 r1 p1 => ?_⟩
  cases r1 with
  | str z =>
    have p1 : PR X.K (Rep X.K) ⟨mu, st, H1, w.op⟩ ((mb σ st).bind fun y st2 => joinD z y st2) Q (xk W σV) := p1
    refine ⟨⟨z, rfl⟩, ?_⟩
    refine ⟨⟨mu, st, H1, w.op⟩, σ, rfl, ok1, sl.step s1 ok, ?_⟩
    refine PR.bind ok1 p1 ?_
    intro d2 st2 y mu2 H2 e2 s2 ok2 r2 p2
    have z2 := joinD_ok (w := ⟨mu2, st2, H2, w.op⟩) ok2 r2 p2
    with_reducible exact z2
  | non => exact False.elim p1
  | bl b => exact False.elim p1
  | int b => exact False.elim p1
  | ty b => exact False.elim p1
  | tup h h2 h3 => exact False.elim p1
  | ktup h h2 => exact False.elim p1
  | lst h h2 h3 h4 => exact False.elim p1
  | scr h h2 h3 h4 => exact False.elim p1
  | kscr h h2 h3 => exact False.elim p1
  | ins h h2 h3 h4 h5 => exact False.elim p1
  | exo h h2 h3 h4 h5 h6 h7 h8 => exact False.elim p1
  | ref h => exact False.elim p1
end
end Sim

set_option Elab.async false
set_option linter.all false
set_option maxRecDepth 100000
set_option maxHeartbeats 4000000
/-! exceptions as values: making one, its fields -/
namespace PySem
namespace SimX
open PySem.W PySem.Calls PyProof.Rows
section
open Builtin Builtin.ObjectAttr
variable {prog : Program} {w : World} {A : Around} {E : Value → Shared → Prop} {R : Result → Shared → Prop} {hp : Heap} {g : Array GenState} {d : Drawn} {t : Nat} {os : OsState} {B : String} {bmB : List Value}
theorem has_cd {K : W.Frag} {C : Addr} {cd : ClassData} (hcd : W.clsIn K C = some cd) (hh : W.hasDictIn K C = true) : cd.hasDict = true := by
  unfold W.hasDictIn at hh
  rw [hcd] at hh
  exact hh
theorem osa_new {K : W.Frag} {name : Str} {tk : Tok} {v : Value} {x C : Addr} {fv : Array Value} {cd : ClassData} (SF : StoreFacts B bmB "object.__setattr__" "object")
    (X : K.In hp) (hx : hp.get? x = some { cls := .ref C, data := .fields fv }) (hcd : W.clsIn K C = some cd) (hp' : W.excOver K C bmB = true) (hh : W.hasDictIn K C = true) (ha : W.takerIn K C name = some none)
    (hq : ∀ h' tk' dx, (∀ b o, b ≠ x → hp.get? b = some o → h'.get? b = some o) → hp.objs.size ≤ dx → dx ≠ x → h'.get? x = some { cls := .ref C, dict := some dx, data := .fields fv } →
      h'.Ns1 dx (fun y => if y = name then some v else none) → R (.ok (.ret .none)) ⟨h', g, d, tk', os⟩) :
    codeAny (model prog w) A (.call (.builtin "object.__setattr__") ⟨[.ref x, .str name tk, v], []⟩) R ⟨hp, g, d, t, os⟩ := by
  have I : W.InstAt hp x { cls := .ref C, data := .fields fv } C none := ⟨hx, rfl, rfl, trivial⟩
  have hxs : x ≠ hp.objs.size := Nat.ne_of_lt (Heap.lt_size hx)
  have hcls : W.Looks (model prog w) hp (classData C) cd := W.looks_clsIn X hcd
  have hd := has_cd hcd hh
  refine W.osa_openX SF X I hp' ha fun b => ?_
  show wpAny _ _ (storeInOwnDict (.ref x) (.ref C) (.str name tk) name v b) _ _ _
  obtain ⟨nm, bs, mro, ns, qn, hdd, sn, sb, ab, col, del⟩ := cd
  dsimp only at hd
  subst hd
  unfold storeInOwnDict ownDictForStores
  repeat (first | with_reducible refine PySem.HandSPX.store_in_new ?_ ?_ | with_reducible refine wpAny_loadPart_at hx ?_ | with_reducible refine hcls.at ?_ | wp_step)
  · exact ⟨_, #[], _, (Heap.get?_update_ne _ _ _ _ hxs.symm).trans (Heap.get?_push_at rfl rfl), rfl, fun e he => absurd he (by simp), fun _ => rfl⟩
  · intro h' tk' hn' hs
    have hx₁ : (hp.push { cls := .type "dict", data := .dict #[] }).get? x = some { cls := .ref C, data := .fields fv } := Heap.get?_push_of_some _ hx
    refine hq h' tk' hp.objs.size (fun b o hb ho => ?_) (Nat.le_refl _) hxs.symm ?_ hn'
    · exact (hs.2 b (Nat.ne_of_lt (Heap.lt_size ho))).trans ((Heap.get?_update_ne _ _ _ _ hb).trans (Heap.get?_push_of_some _ ho))
    · exact (hs.2 x hxs).trans (Heap.get?_update_self _ hx₁ rfl)
theorem osa_old {K : W.Frag} {name : Str} {tk : Tok} {v : Value} {x C dx : Addr} {fv : Array Value} {cd : ClassData} {m0 : Str → Option Value} {nl : List Str} (SF : StoreFacts B bmB "object.__setattr__" "object")
    (X : K.In hp) (hx : hp.get? x = some { cls := .ref C, dict := some dx, data := .fields fv }) (hns : hp.Ns1 dx m0) (hw : Within m0 nl) (hz : nl.length ≤ 1000) (hcd : W.clsIn K C = some cd) (hp' : W.excOver K C bmB = true) (hh : W.hasDictIn K C = true) (ha : W.takerIn K C name = some none)
    (hq : ∀ h' tk', (∀ b o, b ≠ dx → hp.get? b = some o → h'.get? b = some o) → h'.Ns1 dx (fun y => if y = name then some v else m0 y) → R (.ok (.ret .none)) ⟨h', g, d, tk', os⟩) :
    codeAny (model prog w) A (.call (.builtin "object.__setattr__") ⟨[.ref x, .str name tk, v], []⟩) R ⟨hp, g, d, t, os⟩ := by
  obtain ⟨oD, esD, epD, hoD, hdD, _⟩ := hns.count hw
  have I : W.InstAt hp x { cls := .ref C, dict := some dx, data := .fields fv } C (some oD) := ⟨hx, rfl, rfl, hoD⟩
  have hcls : W.Looks (model prog w) hp (classData C) cd := W.looks_clsIn X hcd
  have hd := has_cd hcd hh
  refine W.osa_openX SF X I hp' ha fun b => ?_
  show wpAny _ _ (storeInOwnDict (.ref x) (.ref C) (.str name tk) name v b) _ _ _
  obtain ⟨nm, bs, mro, ns, qn, hdd, sn, sb, ab, col, del⟩ := cd
  dsimp only at hd
  subst hd
  unfold storeInOwnDict ownDictForStores
  repeat (first | with_reducible refine PySem.OEX.store_in_old hns hw hz ?_ | with_reducible refine wpAny_loadPart_at hx ?_ | with_reducible refine hcls.at ?_ | wp_step)
  intro h' tk' hn' hs
  exact hq h' tk' (fun b o hb ho => (hs.2 b hb).trans ho) hn'
end
end SimX
end PySem
namespace Sim
open PySem PySem.Spec PyProof.Rows L2
/-- what the written part says of an exception class of the program, over any built-in base, with an __init__ of its own -/
structure ExG (K : Frag) (C : Addr) : Prop where
  base : ∃ (B newId initId : String) (bmB : List Value), ExcBaseFacts B newId initId bmB ∧ StoreFacts B bmB "object.__setattr__" "object" ∧ PySem.W.excInitIn K C bmB newId = true ∧ PySem.W.excOver K C bmB = true
  hd : PySem.W.hasDictIn K C = true
  sa : PySem.W.findIn K (.ref C) "__setattr__" = some (some (.builtin "object.__setattr__"))
  kC : PySem.W.keepIn K (.ref C) = true
section
variable {X : Cx} {pins : List (Addr × Obj)} {σ : L2.St} {H : Hp} {s : Shared} {a C dx : Addr} {f : Str} {y : V} {u : Value} {fs : List (Str × V)} {Q : Unit → Shared → Prop} {E : Value → Shared → Prop} {A : Around}
theorem ExG.cd {K : Frag} (T : ExG K C) : ∃ cd, PySem.W.clsIn K C = some cd := by
  obtain ⟨B, n, i, bm, _, _, _, q⟩ := T.base
  unfold PySem.W.excOver at q
  cases e : PySem.W.clsIn K C with
  | none => rw [e] at q; cases q
  | some cd => exact ⟨cd, rfl⟩
theorem ostG_new (T : ExG X.K C) (I : Inv X pins σ H s) (e : H a = some (exo a C none)) (hno : PySem.W.findIn X.K (.ref C) f = some none) (ry : RelV y u)
    (h : ∀ dx s', H dx = none → dx ≠ a → Inv X pins σ (upd (upd H dx (exd dx [(f, y)])) a (exo a C (some dx))) s' → Q () s') : wpAny (model X.prog X.w) A (setAttr (.ref a) f u) Q E s := by
  obtain ⟨cd, hcl⟩ := T.cd
  obtain ⟨B, n, i, bm, FB, SF, _, ov⟩ := T.base
  obtain ⟨t1, ho⟩ := exo_at I.hok e
  obtain ⟨hp, g, d, t, os⟩ := s
  refine PySem.W.set_plain I.kIn (ox := { cls := .ref C, dict := none, data := .fields #[.ref t1, .none, .none, .none, .bool false, .none] }) (od := none) ⟨ho, rfl, rfl, trivial⟩ T.sa ?_
  refine PySem.SimX.osa_new SF I.kIn ho hcl ov T.hd (NoAttr.taker hno) (fun h' tk' dx k dn dne hx hn => ?_)
  have hnd : H dx = none := I.hok.fresh dn
  have nd : ∀ {b : Addr} {o : Obj}, hp.get? b = some o → b ≠ dx := fun {b o} q => Nat.ne_of_lt (Nat.lt_of_lt_of_le (Heap.lt_size q) dn)
  have na : ∀ {b : Addr}, H b = none → b ≠ a := fun {b} n z => by
    rw [z, e] at n
    cases n
  have Un1 : Un X.fs [] H (upd (upd H dx (exd dx [(f, y)])) a (exo a C (some dx))) hp h' := {
    keep := fun b o q n _ _ => k b o (na n) q
    slot := fun b o q n _ _ => ⟨o.slots, k b o (na n) q⟩
    free := fun b o q n _ => by rw [upd_ne (na n), upd_ne (nd q)]; exact n
    there := fun b o q _ => by
      by_cases hb : b = a
      · exact ⟨_, by rw [hb]; exact hx⟩
      · exact ⟨o, k b o hb q⟩
    tups := fun b xs q => by rw [upd_ne (at_ne e q exo_tup), upd_ne (ne_of_none q hnd)]; exact q
    frzs := fun b o v q => by rw [upd_ne (at_ne e q exo_frz), upd_ne (ne_of_none q hnd)]; exact q
    tbls := fun b ps q => ⟨#[], by rw [upd_ne (at_ne e q exo_tbl), upd_ne (ne_of_none q hnd), q]; simp⟩ }
  refine h dx _ hnd dne (I.un (t' := tk') Un1 fun b o q => ?_)
  by_cases hb : b = a
  · subst hb
    rw [upd_same] at q
    cases q
    exact exo_ok hx
  · rw [upd_ne hb] at q
    by_cases hd : b = dx
    · subst hd
      rw [upd_same] at q
      cases q
      exact exd_ok hn (relO_put (fs := []) ry fun g => True.intro)
    · rw [upd_ne hd] at q
      exact (I.hok b o q).stay (fun c v hc z => k c v (by
          rcases hc with hc | hc
          · rw [hc]
            exact hb
          · exact at_ne e hc exo_own) z)
        (fun c hc => by rw [upd_ne (at_ne e hc exo_own), upd_ne (ne_of_none hc hnd)]; exact hc) (fun c xs hc => by rw [upd_ne (at_ne e hc exo_tup), upd_ne (ne_of_none hc hnd)]; exact hc)
theorem ostG_old (T : ExG X.K C) (I : Inv X pins σ H s) (e : H a = some (exo a C (some dx))) (ed : H dx = some (exd dx fs)) (hl : fs.length ≤ 900) (hno : PySem.W.findIn X.K (.ref C) f = some none) (ry : RelV y u)
    (h : ∀ s', Inv X pins σ (upd H dx (exd dx ((f, y) :: fs))) s' → Q () s') : wpAny (model X.prog X.w) A (setAttr (.ref a) f u) Q E s := by
  obtain ⟨cd, hcl⟩ := T.cd
  obtain ⟨B, n, i, bm, FB, SF, _, ov⟩ := T.base
  obtain ⟨t1, ho⟩ := exo_at I.hok e
  obtain ⟨mA, hns, rel⟩ := exd_at I.hok ed
  have hw := within_of rel
  obtain ⟨hp, g, d, t, os⟩ := s
  obtain ⟨oD, _, _, hoD, _, _⟩ := hns.count hw
  refine PySem.W.set_plain I.kIn (ox := { cls := .ref C, dict := some dx, data := .fields #[.ref t1, .none, .none, .none, .bool false, .none] }) (od := some oD) ⟨ho, rfl, rfl, hoD⟩ T.sa ?_
  refine PySem.SimX.osa_old SF I.kIn ho hns hw (by rw [List.length_map]; omega) hcl ov T.hd (NoAttr.taker hno) (fun h' tk' k hn => ?_)
  have hd : ∃ o, h'.get? dx = some o := by
    obtain ⟨o, _, _, e', _⟩ := hn
    exact ⟨o, e'⟩
  exact h _ (I.write (t' := tk') (x := dx) (e := dx) (o := exd dx ((f, y) :: fs)) (by rw [ed]; exact True.intro) (.inl rfl) k hd (exd_ok hn (relO_put ry rel)))
end
/-- self.f = e in an exception's __init__ -/
def tOsG (K : Frag) (f : Str) (to te : TE) : TS := fun D σ H => te σ H fun y H1 => to σ H1 fun x H2 => ∃ a C : Addr, x = .ref a ∧ ExG K C ∧ PySem.W.findIn K (.ref C) f = some none ∧
  ((H2 a = some (exo a C none) ∧ ∀ dx, H2 dx = none → dx ≠ a → D.nx σ (upd (upd H2 dx (exd dx [(f, y)])) a (exo a C (some dx)))) ∨
    ∃ (dx : Addr) (fs : List (Str × V)), H2 a = some (exo a C (some dx)) ∧ H2 dx = some (exd dx fs) ∧ fs.length ≤ 900 ∧ D.nx σ (upd H2 dx (exd dx ((f, y) :: fs))))
theorem ps_osG {X : Cx} {o e : Expr} {to te : TE} {f : Str} {p' pos : Pos} (ho : PE X o to) (he : PE X e te) (hs : swapsWith e (some (.Attribute o f p')) pos.line X.env = pure false := by rfl) : PS X (.Assign [.Attribute o f p'] e pos) (tOsG X.K f to te) := by
  refine ⟨fun pins s σ H D I h => ?_⟩
  refine plainObj_wpAny_Assign_Attribute (thn (he.run pins s σ H _ I h) fun v s1 ⟨y, H1, I1, r1, q1⟩ => thn (ho.run pins s1 σ H1 _ I1 q1) fun u s2 ⟨x, H2, I2, r2, a, C, ex, T, hno, q⟩ => ?_) hs
  subst ex
  obtain rfl : u = Value.ref a := r2
  rcases q with ⟨ea, q⟩ | ⟨dx, fs, ea, ed, hl, q⟩
  · exact ostG_new T I2 ea hno r1 fun dx s' n ne J => ⟨σ, _, J, q dx n ne⟩
  · exact ostG_old T I2 ea ed hl hno r1 fun s' J => ⟨σ, _, J, q⟩
end Sim

set_option Elab.async false
set_option linter.all false
set_option maxRecDepth 100000
set_option maxHeartbeats 4000000
namespace PySem
namespace SimX
open PySem.W PySem.Calls PyProof.Rows PySem.HandSPX
section
variable {M : Model} {A : Around} {E : Value → Shared → Prop} {h : Heap} {g : Array GenState} {d : Drawn} {t : Nat} {os : OsState}
variable {nm q : Str} {C N : Addr} {bs bm bmB : List Value} {hdct : Bool} {sn : List Str} {sub : List Value} {ab : Bool} {col : Option Bool} {dd : Option Addr} {k0 k1 k2 k3 k5 : Option Value} {B newId initId : String}
theorem check_newK (F : ExcBaseFacts B newId initId bmB) (hT : ∀ X : String, bm.contains (.type X) = bmB.contains (.type X)) {rest : List Value} {kw : List (Str × Value)} {Q : Unit → Shared → Prop}
    (hC : h.get? C = some (excClassObj nm q C N bs bm hdct sn sub ab col dd k0 k1 k2 k3 k5 newId)) (hq : Q () ⟨h, g, d, t, os⟩) : wpAny M A (checkBuiltinCall newId ⟨.ref C :: rest, kw⟩) Q E ⟨h, g, d, t, os⟩ := by
  have hcont : (Value.ref C :: bm).contains (.type B) = true := by rw [List.contains_cons, hT, F.hasB, Bool.or_true]
  have hstar := F.noStar
  simp only [checkBuiltinCall, F.newKind, F.newSplit, F.newRow]
  repeat (first | refine wpAny_loadPart_at hC ?_ | (refine wpAny_isSubtype_exc hC ?_; rw [hcont]) | refine wpAny_staticBase_exc hC ?_ | refine wpAny_madeBy_exc hC ?_ | simp only [bne_self_eq_false, Bool.false_eq_true, if_false] | wp_step)
  exact hq
end
section
variable {prog : Program} {w : World} {A : Around} {E : Value → Shared → Prop} {R : Result → Shared → Prop} {h : Heap} {g : Array GenState} {d : Drawn} {t : Nat} {os : OsState}
variable {nm q : Str} {C N : Addr} {bs bm bmB : List Value} {hdct : Bool} {sn : List Str} {sub : List Value} {ab : Bool} {col : Option Bool} {dd : Option Addr} {k0 k1 k2 k3 k5 : Option Value} {B newId initId : String}
theorem newK (F : ExcBaseFacts B newId initId bmB) (hT : ∀ X : String, bm.contains (.type X) = bmB.contains (.type X)) {rest : List Value} {kw : List (Str × Value)}
    (hC : h.get? C = some (excClassObj nm q C N bs bm hdct sn sub ab col dd k0 k1 k2 k3 k5 newId))
    (hq : R (.ok (.ret (.ref (h.objs.size + 1)))) ⟨(h.push { cls := .type "tuple", data := .seq rest.toArray }).push
      { cls := .ref C, data := .fields #[.ref h.objs.size, .none, .none, .none, .bool false, .none] }, g, d, t, os⟩) (hrest : rest.length ≤ sizeLine) :
    codeAny (model prog w) A (.builtin newId ⟨.ref C :: rest, kw⟩) R ⟨h, g, d, t, os⟩ := by
  have hends := F.ends
  have hcB : (Value.ref C :: bm).contains (.type B) = true := by rw [List.contains_cons, hT, F.hasB, Bool.or_true]
  have hcA : (Value.ref C :: bm).contains (.type "AttributeError") = false := by rw [List.contains_cons, hT, F.noAttr]; rfl
  have hcN : (Value.ref C :: bm).contains (.type "NameError") = false := by rw [List.contains_cons, hT, F.noName]; rfl
  refine codeAny_builtinAt F.entry ?_
  unfold Builtin.«BaseException.__new__»
  refine wpAt_bind ?_
  show wpAt _ _ _ (stack >>= _) _ _ _
  refine wpAt_bind (wpAt_stack fun p below => wpAt_of_wpAny ?_)
  wp_walk
  refine wpAt_of_wpAny ?_
  rw [F.owner]
  repeat (first | with_reducible refine wpAny_madeHere_exc F.canon hC ?_ | with_reducible refine wpAny_loadPart_at hC ?_ | (with_reducible refine wpAny_isSubtype_exc hC ?_; first | rw [hcB] | rw [hcA] | rw [hcN]) | wp_step)
  show R _ _
  rw [Heap.size_push]
  exact hq
theorem type_callK (F : ExcBaseFacts B newId initId bmB) (hT : ∀ X : String, bm.contains (.type X) = bmB.contains (.type X)) {rest : List Value} {kw : List (Str × Value)} {fI : Addr} {Q : Fin → Shared → Prop}
    (hC : h.get? C = some (excClassObj nm q C N bs bm hdct sn sub ab col dd k0 k1 k2 k3 k5 newId))
    (hi : W.Looks (model prog w) h (typeLookup (.ref C) "__init__") (some (.ref fI))) (hb : ∀ self, W.Looks (model prog w) h (bindSpecial (.ref fI) self) (.ref fI, [self])) (hrest : rest.length ≤ sizeLine)
    (hq : codeAny (model prog w) A (.call (.ref fI) ⟨.ref (h.objs.size + 1) :: rest, kw⟩)
      (fun r s' => match r with | .ok (.ret v) => v = .none ∧ Q (.done (.ret (.ref (h.objs.size + 1)))) s' | .ok _ => False | .error e => E e s')
      ⟨(h.push (W.kdv_tup rest)).push (excO C h.objs.size), g, d, t, os⟩) :
    wpAny (model prog w) A (Builtin.«type.__call__» ⟨.ref C :: rest, kw⟩) Q E ⟨h, g, d, t, os⟩ := by
  repeat (first | with_reducible refine wpAny_loadPart_at hC ?_ | with_reducible refine wpAny_madeBy_exc hC ?_ | wp_step)
  refine codeAny_call_builtin_code (Code.quiet_builtin _ F.quiet) (check_newK F hT hC ?_)
  refine newK F hT hC ?_ hrest
  show wpAny _ _ _ _ _ _
  have k : ∀ b o, h.get? b = some o → ((h.push (W.kdv_tup rest)).push (excO C h.objs.size)).get? b = some o := fun b o e => Heap.get?_push_of_some _ (Heap.get?_push_of_some _ e)
  have hC₁ := k _ _ hC
  have hget : ((h.push (W.kdv_tup rest)).push (excO C h.objs.size)).get? (h.objs.size + 1) = some (excO C h.objs.size) := by heap_get
  have hcC : (Value.ref C :: bm).contains (.ref C) = true := by simp
  have i1 := hi.keeps k
  have b1 := (hb (.ref (h.objs.size + 1))).keeps k
  unfold isInstance
  repeat (first | with_reducible refine wpAny_loadPart_at hget ?_ | (with_reducible refine wpAny_isSubtype_exc hC₁ ?_; rw [hcC]) | wp_step)
  show wpAny _ _ (typeLookup (.ref C) _) _ _ _
  refine i1.at ?_
  refine wpAny_holding (wpAny_bind (b1.at ?_))
  refine wpAny_bind (wpAny_call (codeAny_mono hq fun r s' z => ?_))
  rcases r with e | (v | _ | _ | _) <;> first | exact z | exact z.elim | skip
  obtain ⟨rfl, z⟩ := z
  first
    | exact wpAny_pure (wpAny_pure z)
    | (wp_walk; exact z)
theorem check_tcK {rest : List Value} {kw : List (Str × Value)} {Q : Unit → Shared → Prop} {M : Model} (hC : h.get? C = some (excClassObj nm q C N bs bm hdct sn sub ab col dd k0 k1 k2 k3 k5 newId))
    (hq : Q () ⟨h, g, d, t, os⟩) : wpAny M A (checkBuiltinCall "type.__call__" ⟨.ref C :: rest, kw⟩) Q E ⟨h, g, d, t, os⟩ := by
  have f3 := tc_sub
  have hT : (⟨h, g, d, t, os⟩ : Shared).TypeIs (.ref C) "type" := ⟨_, hC, rfl⟩
  simp only [checkBuiltinCall, tc_kind, tc_split]
  repeat (any_goals (first | assumption | with_reducible refine wpAny_loadPart_at hC ?_ | with_reducible refine wpAny_onRaise ?_ | with_reducible refine wpAny_map ?_ | wp_step))
theorem callK (F : ExcBaseFacts B newId initId bmB) (hT : ∀ X : String, bm.contains (.type X) = bmB.contains (.type X)) {rest : List Value} {kw : List (Str × Value)} {fI : Addr}
    (hC : h.get? C = some (excClassObj nm q C N bs bm hdct sn sub ab col dd k0 k1 k2 k3 k5 newId))
    (hi : W.Looks (model prog w) h (typeLookup (.ref C) "__init__") (some (.ref fI))) (hb : ∀ self, W.Looks (model prog w) h (bindSpecial (.ref fI) self) (.ref fI, [self])) (hrest : rest.length ≤ sizeLine)
    (hq : codeAny (model prog w) (A.under (.builtin "type.__call__" ⟨.ref C :: rest, kw⟩)) (.call (.ref fI) ⟨.ref (h.objs.size + 1) :: rest, kw⟩) (W.InitBack (h.objs.size + 1) R)
      ⟨(h.push (W.kdv_tup rest)).push (excO C h.objs.size), g, d, t, os⟩) :
    codeAny (model prog w) A (.call (.ref C) ⟨rest, kw⟩) R ⟨h, g, d, t, os⟩ := by
  have f1 := tc_lookup
  have f2 := tc_bind (.ref C)
  have hTy : (⟨h, g, d, t, os⟩ : Shared).TypeIs (.ref C) "type" := ⟨_, hC, rfl⟩
  refine codeAny_of_tree ?_
  show wpAny _ _ (callAny (.ref C) _) _ _ _
  repeat (any_goals (first | assumption | with_reducible refine wpAny_loadPart_at hC ?_ | wp_step))
  refine ⟨rfl, ?_⟩
  refine codeAny_call_builtin_at (Code.quiet_builtin _ (by decide +kernel)) entry_typeCall (check_tcK hC (type_callK F hT hC hi hb hrest ?_))
  refine codeAny_mono hq fun r s' z => ?_
  rcases r with e | (v | _ | _ | _) <;> exact z
end
end SimX
end PySem

set_option Elab.async false
set_option linter.all false
set_option maxRecDepth 100000
set_option maxHeartbeats 4000000
namespace Sim
open PySem PySem.Spec PyProof.Rows L2
/-! ### an exception that is being made: its __init__ -/
inductive Fl where
  | a (i : Nat) | s (z : Str)
def Fl.v (vs : List V) : Fl → Option V
  | .a i => vs[i]?
  | .s z => some (.str z)
def Fl.d (vs : List D) : Fl → Option D
  | .a i => vs[i]?
  | .s z => some (.str z)
def tpV : List (Str × Fl) → List V → Option (List (Str × V))
  | [], _ => some []
  | (f, l) :: r, vs => match l.v vs, tpV r vs with
    | some x, some xs => some ((f, x) :: xs)
    | _, _ => none
def tpD : List (Str × Fl) → List D → Option (List (Str × D))
  | [], _ => some []
  | (f, l) :: r, vs => match l.d vs, tpD r vs with
    | some x, some xs => some ((f, x) :: xs)
    | _, _ => none
theorem tpD_rep {K : Frag} {w : Wd} {vs : List V} {ds : List D} (r : Reps K w vs ds) : ∀ {tp : List (Str × Fl)} {fs : List (Str × D)}, tpD tp ds = some fs → ∃ fv, tpV tp vs = some fv ∧ RepF K w fv fs ∧ fs.map (·.1) = tp.map (·.1)
  | [], fs, e => by cases e; exact ⟨[], rfl, .nil, rfl⟩
  | (f, l) :: tp, fs, e => by
    unfold tpD at e
    cases e1 : l.d ds with
    | none => simp only [e1] at e; cases e
    | some x =>
      cases e2 : tpD tp ds with
      | none => simp only [e1, e2] at e; cases e
      | some xs =>
        simp only [e1, e2] at e
        cases e
        obtain ⟨fv, h1, h2, h3⟩ := tpD_rep r e2
        have : ∃ v, l.v vs = some v ∧ Rep K w v x := by
          cases l with
          | a i => exact r.get e1
          | s z => cases e1; exact ⟨_, rfl, .str z⟩
        obtain ⟨v, h4, h5⟩ := this
        refine ⟨(f, v) :: fv, ?_, .cons h5 h2, by simp [h3]⟩
        unfold tpV
        simp only [h4, h1]
def spI (C : Addr) (n : Nat) (tp : List (Str × Fl)) : Sp := fun vs H Q _ => ∃ (a : Addr) (ws : List V) (fs : List (Str × V)), vs = .ref a :: ws ∧ ws.length = n ∧ H a = some (exo a C none) ∧ tpV tp ws = some fs ∧ ∀ d, H d = none → d ≠ a → Q .non (upd (upd H d (exd d fs)) a (exo a C (some d)))
theorem spI.len {C : Addr} {n : Nat} {tp : List (Str × Fl)} {vs : List V} {H : Hp} {Q : VK} {E : XK} (h : spI C n tp vs H Q E) : vs.length = n + 1 := by
  obtain ⟨a, ws, fs, rfl, l, _⟩ := h
  simp [l]
theorem upd2 {H : Hp} {a d : Addr} {x y z : HO} (h : d ≠ a) : upd (upd (upd H d x) a y) d z = upd (upd H d z) a y := by
  funext b
  by_cases h1 : b = d
  · subst h1; rw [upd_same, upd_ne h, upd_same]
  · rw [upd_ne h1]
    by_cases h2 : b = a
    · subst h2; rw [upd_same, upd_same]
    · rw [upd_ne h2, upd_ne h2, upd_ne h1, upd_ne h1]
section
variable {P : Program} {w : World} {K : Frag} {mg : Str → Option Value} {base : Heap} {C fI : Addr} {fd : FuncData} {qual : Str} {params : Arguments} {scope : Scope} {p1 p2 p3 p4 q1 q2 q3 q4 r1 r2 r3 r4 : Pos}
/-- code alone -/
theorem ok_init1 {z : Str} {j} (T : ExG K C) (h1 : PySem.W.findIn K (.ref C) "code" = some none)
    (F : FunD K "__init__" qual params [.Assign [.Attribute (.Name "self" p1) "code" p2] (.Constant (.str z) j p3) p4] scope [] [] fI fd) (S : FnScope ["self"] ["self"] scope) :
    FnOk P w K mg base (CXp P w) 1 fI fd ["self"] (spI C 0 [("code", .s z)]) := by
  have hself : Vis scope "self" := by
    rcases S.par "self" (by simp) with h | h
    · exact .inl h
    · exact .inr (.inl h)
  refine F.ok S (fun vs H Q E h => h.len) fun cdv A outer s H vs Q E hr h => ⟨_, pss_one (ps_osG (pe_var (i := 0) rfl hself) pe_str), ?_⟩
  obtain ⟨a, ws, fs, rfl, l, ha, e, q⟩ := h
  cases ws with
  | cons _ _ => cases l
  | nil =>
    cases e
    exact ⟨_, rfl, a, C, rfl, T, h1, .inl ⟨ha, fun dx hd hn => q dx hd hn⟩⟩
theorem ok_init2 {f : Str} {z : Str} {j} (T : ExG K C) (hf : (f == ("__debug__" : Str)) = false) (hc : (f == ("__classdict__" : Str)) = false) (h1 : PySem.W.findIn K (.ref C) "code" = some none) (h2 : PySem.W.findIn K (.ref C) f = some none)
    (F : FunD K "__init__" qual params [.Assign [.Attribute (.Name "self" p1) f p2] (.Name f p3) p4, .Assign [.Attribute (.Name "self" q1) "code" q2] (.Constant (.str z) j q3) q4] scope [] [] fI fd) (S : FnScope ["self", f] ["self", f] scope) :
    FnOk P w K mg base (CXp P w) 1 fI fd ["self", f] (spI C 1 [("code", .s z), (f, .a 0)]) := by
  have hself : Vis scope "self" := by
    rcases S.par "self" (by simp) with h | h
    · exact .inl h
    · exact .inr (.inl h)
  have hv : Vis scope f := by
    rcases S.par f (by simp) with h | h
    · exact .inl h
    · exact .inr (.inl h)
  refine F.ok S (fun vs H Q E h => h.len) fun cdv A outer s H vs Q E hr h => ⟨_, pss_cons (ps_osG (pe_var (i := 0) rfl hself) (pe_var (i := 1) rfl hv hf hc)) (pss_one (ps_osG (pe_var (i := 0) rfl hself) pe_str)), ?_⟩
  obtain ⟨a, ws, fs, rfl, l, ha, e, q⟩ := h
  match ws, l with
  | [x], _ =>
    cases e
    refine ⟨x, rfl, _, rfl, a, C, rfl, T, h2, .inl ⟨ha, fun dx hd hn => ?_⟩⟩
    refine ⟨_, rfl, a, C, rfl, T, h1, .inr ⟨dx, _, upd_same, by rw [upd_ne hn, upd_same], by simp, ?_⟩⟩
    rw [upd2 hn]
    exact q dx hd hn
theorem ok_init3 {f g : Str} {z : Str} {j} (T : ExG K C) (hf : (f == ("__debug__" : Str)) = false) (hc : (f == ("__classdict__" : Str)) = false) (hg : (g == ("__debug__" : Str)) = false) (hgc : (g == ("__classdict__" : Str)) = false)
    (h1 : PySem.W.findIn K (.ref C) "code" = some none) (h2 : PySem.W.findIn K (.ref C) f = some none) (h3 : PySem.W.findIn K (.ref C) g = some none)
    (F : FunD K "__init__" qual params [.Assign [.Attribute (.Name "self" p1) f p2] (.Name f p3) p4, .Assign [.Attribute (.Name "self" r1) g r2] (.Name g r3) r4, .Assign [.Attribute (.Name "self" q1) "code" q2] (.Constant (.str z) j q3) q4] scope [] [] fI fd) (S : FnScope ["self", f, g] ["self", f, g] scope) :
    FnOk P w K mg base (CXp P w) 1 fI fd ["self", f, g] (spI C 2 [("code", .s z), (g, .a 1), (f, .a 0)]) := by
  have hself : Vis scope "self" := by
    rcases S.par "self" (by simp) with h | h
    · exact .inl h
    · exact .inr (.inl h)
  have hv : Vis scope f := by
    rcases S.par f (by simp) with h | h
    · exact .inl h
    · exact .inr (.inl h)
  have hv2 : Vis scope g := by
    rcases S.par g (by simp) with h | h
    · exact .inl h
    · exact .inr (.inl h)
  refine F.ok S (fun vs H Q E h => h.len) fun cdv A outer s H vs Q E hr h => ⟨_, pss_cons (ps_osG (pe_var (i := 0) rfl hself) (pe_var (i := 1) rfl hv hf hc)) (pss_cons (ps_osG (pe_var (i := 0) rfl hself) (pe_var (i := 2) rfl hv2 hg hgc)) (pss_one (ps_osG (pe_var (i := 0) rfl hself) pe_str))), ?_⟩
  obtain ⟨a, ws, fs, rfl, l, ha, e, q⟩ := h
  match ws, l with
  | [x, y], _ =>
    cases e
    refine ⟨x, rfl, _, rfl, a, C, rfl, T, h2, .inl ⟨ha, fun dx hd hn => ?_⟩⟩
    refine ⟨y, rfl, _, rfl, a, C, rfl, T, h3, .inr ⟨dx, _, upd_same, by rw [upd_ne hn, upd_same], by simp, ?_⟩⟩
    rw [upd2 hn]
    refine ⟨_, rfl, a, C, rfl, T, h1, .inr ⟨dx, _, upd_same, by rw [upd_ne hn, upd_same], by simp, ?_⟩⟩
    rw [upd2 hn]
    exact q dx hd hn
end
/-! ### binding by keywords -/
def gB (rv : Bool) {α : Type} (us ws : List α) : List α := us ++ (if rv = true then ws.reverse else ws)
theorem Vals.gB {rv : Bool} {vs zs : List V} {us ws : List Value} (r : Vals vs us) (s : Vals zs ws) : Vals (Sim.gB rv vs zs) (Sim.gB rv us ws) := by
  unfold Sim.gB
  refine r.append ?_
  cases rv with
  | false => exact s
  | true =>
    rw [if_pos rfl, if_pos rfl]
    clear r
    induction s with
    | nil => exact .nil
    | cons h t ih =>
      rw [List.reverse_cons, List.reverse_cons]
      exact ih.append (.cons h .nil)
theorem kbn {K : Frag} {x qual : Str} {params : Arguments} {body : List Stmt} {scope : Scope} {f : Addr} {fd : FuncData} {ps : List Str} (F : FunD K x qual params body scope [] [] f fd) (n : Nat) (ks : List Str) (rv : Bool)
    (h : ∀ (kV doc pm : Value) (an : Option Addr) (cdv ct : Value) (us ws : List Value), us.length = n → ws.length = ks.length → bindArgs (PySem.W.fnOf x qual params body scope .none kV doc pm an cdv ct) ⟨us, ks.zip ws⟩ = pure (ps.zip (gB rv us ws))) :
    KBn K fd ps n ks (gB rv) (gB rv) := by
  obtain ⟨oc, od, dV, kV, doc, pm, an, cdv, ct, osl, rfl, lk, hcd, hD, hK⟩ := F.ex
  rcases hD with ⟨_, rfl⟩ | ⟨e, _⟩
  · exact ⟨fun s us ws _ l1 l2 => .of_eq (h kV doc pm an cdv ct us ws l1 l2), fun r s => Vals.gB r s⟩
  · exact absurd rfl e
section
variable {X : Cx} {pins : List (Addr × Obj)} {σ : L2.St} {H : Hp} {s : Shared} {C fI : Addr} {k n : Nat} {fd : FuncData} {ps ks : List Str} {tp : List (Str × Fl)} {rv : Bool}
theorem xo_ext {a C d b : Addr} : xo a C d ≠ .own b := fun z => by
  have z' : HO.ext _ = HO.own b := z
  cases z'
/-- the exception stands: as a value from here on -/
theorem recast {a d : Addr} {fs : List (Str × V)} (I : Inv X pins σ (upd (upd H d (exd d fs)) a (exo a C (some d))) s) (hd : H d = none) (ha : H a = none) (hn : d ≠ a) : Inv X pins σ (upd (upd H d (.xd fs)) a (xo a C d)) s := by
  obtain ⟨t1, he⟩ := exo_at I.hok upd_same
  obtain ⟨mA, hns, rel⟩ := exd_at (fs := fs) (dx := d) I.hok (by rw [upd_ne hn, upd_same])
  have key : ∀ b o, b ≠ a → b ≠ d → (upd (upd H d (exd d fs)) a (exo a C (some d)) b = some o ↔ upd (upd H d (.xd fs)) a (xo a C d) b = some o) := fun b o h1 h2 => by rw [upd_ne h1, upd_ne h2, upd_ne h1, upd_ne h2]
  have nx : ∀ {b : Addr} {o : HO}, upd (upd H d (exd d fs)) a (exo a C (some d)) b = some o → o ≠ exo a C (some d) → o ≠ exd d fs → b ≠ a ∧ b ≠ d := fun {b o} h h1 h2 => by
    refine ⟨fun z => ?_, fun z => ?_⟩
    · rw [z, upd_same] at h; exact h1 (Option.some.inj h).symm
    · rw [z, upd_ne hn, upd_same] at h; exact h2 (Option.some.inj h).symm
  obtain ⟨hp, g, dr, tk, os⟩ := s
  refine I.un (t' := tk) (h' := hp) ⟨fun b o q _ _ _ => q, fun b o q _ _ _ => ⟨o.slots, q⟩, fun b o q n _ => ?_, fun b o q _ => ⟨o, q⟩, fun b xs q => ?_, fun b o v q => ?_, fun b ps q => ⟨#[], ?_⟩⟩ fun b o q => ?_
  · have h1 : b ≠ a := fun z => by rw [z, upd_same] at n; cases n
    have h2 : b ≠ d := fun z => by rw [z, upd_ne hn, upd_same] at n; cases n
    rw [upd_ne h1, upd_ne h2] at n ⊢
    exact n
  · obtain ⟨h1, h2⟩ := nx q exo_tup.symm exd_tup.symm
    exact (key _ _ h1 h2).mp q
  · have h3 : exd d fs ≠ .frz o v := fun z => by
      have z' : HO.ext _ = HO.frz o v := z
      cases z'
    obtain ⟨h1, h2⟩ := nx q exo_frz.symm h3.symm
    exact (key _ _ h1 h2).mp q
  · have h3 : exd d fs ≠ .tbl ps := fun z => by
      have z' : HO.ext _ = HO.tbl ps := z
      cases z'
    obtain ⟨h1, h2⟩ := nx q exo_tbl.symm h3.symm
    have := (key _ _ h1 h2).mp q
    simpa using this
  · by_cases h1 : b = a
    · subst h1
      rw [upd_same] at q
      cases q
      exact ⟨⟨_, _, he, rfl, rfl, rfl⟩, ⟨_, he⟩, fun _ _ ⟨o, vs, e1, e2⟩ k => ⟨o, vs, k _ e1, e2⟩⟩
    · rw [upd_ne h1] at q
      by_cases h2 : b = d
      · subst h2
        rw [upd_same] at q
        cases q
        exact ⟨mA, hns, rel⟩
      · rw [upd_ne h2] at q
        have q0 : upd (upd H d (exd d fs)) a (exo a C (some d)) b = some o := by rw [upd_ne h1, upd_ne h2]; exact q
        refine (I.hok b o q0).stay (fun _ _ _ z => z) (fun c hc => ?_) fun c xs hc => ?_
        · obtain ⟨h3, h4⟩ := nx hc exo_own.symm exd_own.symm
          exact (key _ _ h3 h4).mp hc
        · obtain ⟨h3, h4⟩ := nx hc exo_tup.symm exd_tup.symm
          exact (key _ _ h3 h4).mp hc
theorem run_mkX {CX : CXT} {Q : VK} {us ws : List Value} {vs zs : List V} (T : ExG X.K C) (iC : PySem.W.findIn X.K (.ref C) "__init__" = some (some (.ref fI))) (tI : PySem.W.typeIn X.K (.ref fI) = some (.type "function"))
    (F1 : FnOk X.prog X.w X.K X.mg X.base CX k fI fd ps (spI C n tp)) (hr : Room (k + 1) X.A) (hb : KBn X.K fd ps (vs.length + 1) ks (gB rv) (gB rv)) (hx : Passes CX X (fun _ _ _ => False))
    (I : Inv X pins σ H s) (r : Vals vs us) (rz : Vals zs ws) (l2 : zs.length = ks.length) (hl : vs.length ≤ 1000) (hn : (gB rv vs zs).length = n)
    (h : ∃ fs, tpV tp (gB rv vs zs) = some fs ∧ ∀ a d, H a = none → H d = none → d ≠ a → Q (.ref a) (upd (upd H d (.xd fs)) a (xo a C d))) :
    wpAny (model X.prog X.w) X.A (call (.ref C) us (ks.zip ws)) (EP X pins σ Q) X.xe s := by
  obtain ⟨B, newId, initId, bmB, FB, SF, q0, ov⟩ := T.base
  obtain ⟨nm, N, qn, bs, bm, hdct, sn, sub, ab, col, dd, k0, k1, k2, k3, k5, hC, hT⟩ := PySem.W.excInit_of I.kIn q0
  obtain ⟨fs, hfs, hq0⟩ := h
  obtain ⟨hp, g, dr, tk, os⟩ := s
  have hsz : hp.objs.size ≤ hp.objs.size + 1 := Nat.le_succ _
  have hn0 : H (hp.objs.size + 1) = none := I.hok.fresh hsz
  have kk : ∀ b o, hp.get? b = some o → ((hp.push (PySem.W.kdv_tup us)).push (PySem.HandSPX.excO C hp.objs.size)).get? b = some o := fun b o e => Heap.get?_push_of_some _ (Heap.get?_push_of_some _ e)
  have hget : ((hp.push (PySem.W.kdv_tup us)).push (PySem.HandSPX.excO C hp.objs.size)).get? (hp.objs.size + 1) = some (PySem.HandSPX.excO C hp.objs.size) := by heap_get
  have I2 : Inv X pins σ (upd H (hp.objs.size + 1) (exo (hp.objs.size + 1) C none)) ⟨(hp.push (PySem.W.kdv_tup us)).push (PySem.HandSPX.excO C hp.objs.size), g, dr, tk, os⟩ :=
    I.laid (t' := tk) (a := hp.objs.size + 1) (o := exo (hp.objs.size + 1) C none) (h' := (hp.push (PySem.W.kdv_tup us)).push (PySem.HandSPX.excO C hp.objs.size)) kk hsz (exo_ok hget)
  have r1 : Vals (V.ref (hp.objs.size + 1) :: vs) (Value.ref (hp.objs.size + 1) :: us) := .cons rfl r
  have r2 := hb.rel r1 rz
  have n1 : (Value.ref (hp.objs.size + 1) :: us).length = vs.length + 1 := by rw [List.length_cons, ← r.length]
  have hus : us.length ≤ sizeLine := by
    rw [← Paired.length r, sizeLine_eq]
    omega
  have hq : spI C n tp (gB rv (V.ref (hp.objs.size + 1) :: vs) zs) (upd H (hp.objs.size + 1) (exo (hp.objs.size + 1) C none)) (fun v H2 => v = .non ∧ ∃ d, H d = none ∧ d ≠ hp.objs.size + 1 ∧ H2 = upd (upd H d (exd d fs)) (hp.objs.size + 1) (exo (hp.objs.size + 1) C (some d))) (fun _ _ _ => False) := by
    refine ⟨hp.objs.size + 1, gB rv vs zs, fs, by unfold gB; rw [List.cons_append], hn, upd_same, hfs, fun d hd hne => ⟨rfl, d, by rw [upd_ne hne] at hd; exact hd, hne, ?_⟩⟩
    funext b
    by_cases h1 : b = hp.objs.size + 1
    · rw [h1, upd_same, upd_same]
    · rw [upd_ne h1, upd_ne h1]
      by_cases h2 : b = d
      · rw [h2, upd_same, upd_same]
      · rw [upd_ne h2, upd_ne h2, upd_ne h1]
  refine wpAny_call (PySem.SimX.callK FB hT hC (PySem.W.looks_findIn I.kIn iC) (fun self => PySem.W.bind_fn I.kIn self tI) hus (codeAny_mono (F1.run _ X.stack _ _ ⟨Value.ref (hp.objs.size + 1) :: us, ks.zip ws⟩ (gB rv (Value.ref (hp.objs.size + 1) :: us) ws) _ _ (fun _ _ _ => False) (hr.make C us (ks.zip ws))
    (I2.env0.make C us (ks.zip ws)) (hb.to _ (Value.ref (hp.objs.size + 1) :: us) ws I2.kIn n1 (rz.length.symm.trans l2)) r2 hq) fun r s' hq' => ?_))
  cases r with
  | error e => exact hx pins σ _ _ e s' I2 hq'
  | ok fl =>
    cases fl with
    | ret u =>
      obtain ⟨v, H', I3, rv', ev, d, hd, hne, e3⟩ := I2.after hq'
      subst ev
      subst e3
      exact ⟨rv', ⟨V.ref (hp.objs.size + 1), _, recast I3 hd hn0 hne, rfl, hq0 _ d hn0 hd hne⟩⟩
    | next => exact False.elim hq'
    | brk => exact False.elim hq'
    | cont => exact False.elim hq'
end
end Sim

set_option Elab.async false
set_option linter.all false
set_option maxRecDepth 100000
set_option maxHeartbeats 4000000
namespace Sim
open PySem PySem.Spec PyProof.Rows L2
/-- an exception class of the program, by its name: n parameters, the fields tp, the ways it is called -/
structure MkX (P : Program) (w : World) (K : Frag) (mg : Str → Option Value) (base : Heap) (x : Str) (n : Nat) (tp : List (Str × Fl)) (modes : List (Nat × List Str × Bool)) : Prop where
  T : ExG K (He.ga K x)
  init : ∃ (fI : Addr) (fd : FuncData) (ps : List Str), PySem.W.findIn K (.ref (He.ga K x)) "__init__" = some (some (.ref fI)) ∧ PySem.W.typeIn K (.ref fI) = some (.type "function") ∧ FnOk P w K mg base (CXp P w) 1 fI fd ps (spI (He.ga K x) n tp) ∧
    ∀ md ∈ modes, KBn K fd ps (md.1 + 1) md.2.1 (gB md.2.2) (gB md.2.2)
  glo : mg x = some (.ref (He.ga K x))
  cls : ∀ fs : List (Str × D), fs.map (·.1) = tp.map (·.1) → ExcC K x fs
  ty : PySem.W.typeIn K (.ref (He.ga K x)) = some (.type "type")
def tMkX (C : Addr) (tp : List (Str × Fl)) (n0 nk n : Nat) (rv : Bool) (tA tK : TA) : TE := fun σ H Q => tA σ H fun vs H1 => tK σ H1 fun zs H2 => vs.length = n0 ∧ zs.length = nk ∧ (gB rv vs zs).length = n ∧ ∃ fs, tpV tp (gB rv vs zs) = some fs ∧ ∀ a d, H2 a = none → H2 d = none → d ≠ a → Q (.ref a) (upd (upd H2 d (.xd fs)) a (xo a C d))
section
variable {X : Cx} {W : WX} {x : Str} {n n0 k : Nat} {tp : List (Str × Fl)} {modes : List (Nat × List Str × Bool)} {ks : List Str} {rv : Bool} {p pos : Pos} {e : Expr} {es : List Expr} {kws : List Keyword} {tA tK : TA}
theorem no_pass (tk : Takes X W) : Passes (CXp X.prog X.w) X (fun _ _ _ => False) := passes_call (W := W) tk fun _ _ _ _ h => h.elim
theorem pe_mkX (M : MkX X.prog X.w X.K X.mg X.base x n tp modes) (hmd : (n0, [], false) ∈ modes) (h0 : n0 ≤ 1000) (hr : Room (k + 2) X.A) (tk : Takes X W) (ha : PA X (e :: es) tA) (hg : Gl X x) (hdb : (x == ("__debug__" : Str)) = false := by decide)
    (he : starEach (e :: es) X.env = (false, eval e X.env) :: starEach es X.env := by rfl) (hpl : (backTo pos (starEach es X.env)).any (·.1) = false := by rfl) :
    PE X (.Call (.Name x p) (e :: es) [] pos) (tMkX (He.ga X.K x) tp n0 0 n false tA tNil) := by
  obtain ⟨fI, fd, ps, iC, tI, F, B⟩ := M.init
  refine ⟨fun pins s σ H Q I h => ?_⟩
  refine wpAny_Call_Name_kw (ld_glob I hg M.glo ?_ hdb)
  refine PySem.W.callWith_K (h₀ := X.base) I.ok.mod.kin M.T.kC (thn (ha.run pos pins s σ H _ I h) fun us s1 ⟨vs, H1, I1, r, l1, l2, l3, q⟩ => ⟨I1.kIn, ?_⟩) he hpl
  have b := B _ hmd
  simp only at b
  rw [← l1] at b
  exact run_mkX (ks := []) (ws := []) (zs := []) M.T iC tI F (hr.mono (by omega)) b (no_pass tk) I1 r .nil rfl (by rw [l1]; exact h0) l3 q
theorem pe_mkX0 (M : MkX X.prog X.w X.K X.mg X.base x n tp modes) (hmd : (0, [], false) ∈ modes) (hr : Room (k + 2) X.A) (tk : Takes X W) (hg : Gl X x) (hdb : (x == ("__debug__" : Str)) = false := by decide) :
    PE X (.Call (.Name x p) [] [] pos) (tMkX (He.ga X.K x) tp 0 0 n false tNil tNil) := by
  obtain ⟨fI, fd, ps, iC, tI, F, B⟩ := M.init
  refine ⟨fun pins s σ H Q I h => ?_⟩
  refine wpAny_Call_Name_kw (ld_glob I hg M.glo ?_ hdb)
  obtain ⟨l1, l2, l3, q⟩ := h
  exact PySem.W.callWith_K0 I.kIn M.T.kC (run_mkX (ks := []) (us := []) (vs := []) (ws := []) (zs := []) M.T iC tI F (hr.mono (by omega)) (B _ hmd) (no_pass tk) I .nil .nil rfl (by simp) l3 q)
theorem pe_mkXK (M : MkX X.prog X.w X.K X.mg X.base x n tp modes) (hmd : (n0, ks, rv) ∈ modes) (h0 : n0 ≤ 1000) (hr : Room (k + 2) X.A) (tk : Takes X W) (ha : PA X (e :: es) tA) (hkw : PK X kws tK) (hg : Gl X x) (hdb : (x == ("__debug__" : Str)) = false := by decide)
    (hall : (backToKw pos (keywordEach kws X.env)).all (·.1.isSome) = true := by rfl) (hks : (backToKw pos (keywordEach kws X.env)).filterMap (·.1) = ks := by rfl)
    (he : starEach (e :: es) X.env = (false, eval e X.env) :: starEach es X.env := by rfl) (hpl : ((backTo pos (starEach (e :: es) X.env)).any (·.1) || (backToKw pos (keywordEach kws X.env)).any (·.1.isNone)) = false := by rfl) :
    PE X (.Call (.Name x p) (e :: es) kws pos) (tMkX (He.ga X.K x) tp n0 ks.length n rv tA tK) := by
  obtain ⟨fI, fd, ps, iC, tI, F, B⟩ := M.init
  refine ⟨fun pins s σ H Q I h => ?_⟩
  refine wpAny_Call_Name_kw (ld_glob I hg M.glo ?_ hdb)
  refine PySem.W.callWith_KW (h₀ := X.base) I.ok.mod.kin M.T.kC hall (thn (ha.run pos pins s σ H _ I h) fun us s1 ⟨vs, H1, I1, r, q1⟩ => ?_) hpl he
  refine thn (hkw.run pos pins s1 σ H1 _ I1 q1) fun ws s2 ⟨zs, H2, I2, rz, l1, l2, l3, q⟩ => ⟨I2.kIn, ?_⟩
  rw [hks]
  have b := B _ hmd
  simp only at b
  rw [← l1] at b
  exact run_mkX M.T iC tI F (hr.mono (by omega)) b (no_pass tk) I2 r rz l2 (by rw [l1]; exact h0) l3 q
theorem pe_mkXK0 (M : MkX X.prog X.w X.K X.mg X.base x n tp modes) (hmd : (0, ks, rv) ∈ modes) (hr : Room (k + 2) X.A) (tk : Takes X W) (hkw : PK X kws tK) (hg : Gl X x) (hdb : (x == ("__debug__" : Str)) = false := by decide)
    (hall : (backToKw pos (keywordEach kws X.env)).all (·.1.isSome) = true := by rfl) (hks : (backToKw pos (keywordEach kws X.env)).filterMap (·.1) = ks := by rfl)
    (hpl : ((backTo pos (starEach [] X.env)).any (·.1) || (backToKw pos (keywordEach kws X.env)).any (·.1.isNone)) = false := by rfl) :
    PE X (.Call (.Name x p) [] kws pos) (tMkX (He.ga X.K x) tp 0 ks.length n rv tNil tK) := by
  obtain ⟨fI, fd, ps, iC, tI, F, B⟩ := M.init
  refine ⟨fun pins s σ H Q I h => ?_⟩
  refine wpAny_Call_Name_kw (ld_glob I hg M.glo ?_ hdb)
  refine PySem.W.callWith_KW0 (h₀ := X.base) I.ok.mod.kin M.T.kC hall ?_ hpl
  refine thn (hkw.run pos pins s σ H _ I h) fun ws s2 ⟨zs, H2, I2, rz, l1, l2, l3, q⟩ => ⟨I2.kIn, ?_⟩
  rw [hks]
  exact run_mkX (us := []) (vs := []) M.T iC tI F (hr.mono (by omega)) (B _ hmd) (no_pass tk) I2 .nil rz l2 (by simp) l3 q
/-- keywords' values -/
def SK (X : Cx) (W : WX) (kws : List Keyword) (m : Am) : Prop := PK X kws (TAm X.K m W)
theorem sk_nil : SK X W [] aNil := ⟨fun pos pins s σV H Q I q => by
  obtain ⟨w, σ, rfl, ok, sl, p⟩ := q
  exact wpAny_evalAll_nil ⟨[], w.H, I, .nil, PR.ret (R := Reps X.K) ok p .nil⟩⟩
theorem sk_cons {nm : Option Str} {kpos : Pos} {m : Em} {r : Am} (ha : SE X W e m) (hr : SK X W kws r) : SK X W (⟨nm, e, kpos⟩ :: kws) (aCons m r) := by
  have h := pk_cons (nm := nm) (kpos := kpos) ha hr
  refine ⟨fun pos pins s σV H Q I q => h.run pos pins s σV H Q I ?_⟩
  obtain ⟨w, σ, rfl, ok, sl, p⟩ := q
  refine ⟨w, σ, rfl, ok, sl, PR.bind ok p fun d st x mu H1 e1 s1 ok1 r1 p1 => ?_⟩
  refine ⟨⟨mu, st, H1, w.op⟩, σ, rfl, ok1, sl.step s1 ok, PR.bind ok1 p1 fun ds st2 xs mu2 H2 e2 s2 ok2 r2 p2 => ?_⟩
  exact PR.ret (R := Reps X.K) ok2 p2 (.cons (r1.step s2 ok1) r2)
def mkD (x : Str) (tp : List (Str × Fl)) (n0 nk n : Nat) (rv : Bool) (as bs : List D) (st : Sto) : Res D := if as.length = n0 ∧ bs.length = nk ∧ (gB rv as bs).length = n then (match tpD tp (gB rv as bs) with
  | some fs => .ok (.ins x fs) st
  | none => .bad) else .bad
def eMk (x : Str) (tp : List (Str × Fl)) (n0 nk n : Nat) (rv : Bool) (ma mk : Am) : Em := fun σ st => (ma σ st).bind fun as st1 => (mk σ st1).bind fun bs st2 => mkD x tp n0 nk n rv as bs st2
theorem Reps.rev {K : Frag} {w : Wd} {rv : Bool} {vs us : List V} {as bs : List D} (r : Reps K w vs as) (s : Reps K w us bs) : Reps K w (gB rv vs us) (gB rv as bs) := by
  unfold gB
  refine r.append ?_
  cases rv with
  | false => exact s
  | true => exact s.reverse
theorem t_mkX (hc : ∀ fs : List (Str × D), fs.map (·.1) = tp.map (·.1) → ExcC X.K x fs) {ma mk : Am} {nk : Nat} {σV : L2.St} {H : Hp} {Q : VK} (q : TEm X.K (eMk x tp n0 nk n rv ma mk) W σV H Q) : tMkX (He.ga X.K x) tp n0 nk n rv (TAm X.K ma W) (TAm X.K mk W) σV H Q := by
  obtain ⟨w, σ, rfl, ok, sl, p⟩ := q
  refine ⟨w, σ, rfl, ok, sl, PR.bind ok p fun as st vs mu H1 e1 s1 ok1 r1 p1 => ?_⟩
  refine ⟨⟨mu, st, H1, w.op⟩, σ, rfl, ok1, sl.step s1 ok, PR.bind ok1 p1 fun bs st2 zs mu2 H2 e2 s2 ok2 r2 p2 => ?_⟩
  unfold mkD at p2
  by_cases hl : as.length = n0 ∧ bs.length = nk ∧ (gB rv as bs).length = n
  · rw [if_pos hl] at p2
    have rr : Reps X.K ⟨mu2, st2, H2, w.op⟩ (gB rv vs zs) (gB rv as bs) := Reps.rev (r1.step s2 ok1) r2
    cases e3 : tpD tp (gB rv as bs) with
    | none => simp only [e3] at p2; exact p2.elim
    | some fs =>
      simp only [e3] at p2
      obtain ⟨fv, h1, h2, h3⟩ := tpD_rep rr e3
      refine ⟨by rw [r1.length]; exact hl.1, by rw [r2.length]; exact hl.2.1, by rw [rr.length]; exact hl.2.2, fv, h1, fun a d ha hd hn => ?_⟩
      have oA := put_ok (o := .xd fv) ok2 hd
      have sA := put_step (w := ⟨mu2, st2, H2, w.op⟩) (o := .xd fv) hd
      have ha' : (Wd.put ⟨mu2, st2, H2, w.op⟩ d (.xd fv)).H a = none := by
        show upd H2 d (.xd fv) a = none
        rw [upd_ne (Ne.symm hn)]
        exact ha
      have oB := put_ok (o := xo a (He.ga X.K x) d) oA ha'
      have sB := put_step (w := Wd.put ⟨mu2, st2, H2, w.op⟩ d (.xd fv)) (o := xo a (He.ga X.K x) d) ha'
      have hdA : (Wd.put ⟨mu2, st2, H2, w.op⟩ d (.xd fv)).H d ≠ none := by
        show upd H2 d (.xd fv) d ≠ none
        rw [upd_same]; simp
      exact p2 (.ref a) mu2 _ (sA.trans sB ok2) oB (.exo (dx := d) upd_same (by show upd (upd H2 d (.xd fv)) a _ d = _; rw [upd_ne hn, upd_same]) (put_live oA ha') (sB.live oA hdA (put_live ok2 hd)) (oA.notOp ha') (ok2.notOp hd) (h2.step (sA.trans sB ok2) ok2) (hc fs h3))
  · rw [if_neg hl] at p2
    exact p2.elim
theorem se_mkX {ma : Am} (M : MkX X.prog X.w X.K X.mg X.base x n tp modes) (hr : Room (k + 2) X.A) (tk : Takes X W) (ha : SA X W (e :: es) ma) (hmd : (n0, [], false) ∈ modes := by simp) (h0 : n0 ≤ 1000 := by decide) (hg : Gl X x := by rfl) (hdb : (x == ("__debug__" : Str)) = false := by decide)
    (he : starEach (e :: es) X.env = (false, eval e X.env) :: starEach es X.env := by rfl) (hpl : (backTo pos (starEach es X.env)).any (·.1) = false := by rfl) : SE X W (.Call (.Name x p) (e :: es) [] pos) (eMk x tp n0 0 n false ma aNil) :=
  pe_imp (pe_mkX (tA := TAm X.K ma W) M hmd h0 hr tk ha hg hdb he hpl) fun σV H Q q => by
    have z := t_mkX M.cls q
    obtain ⟨w, σ, h1, ok, sl, p⟩ := z
    refine ⟨w, σ, h1, ok, sl, p.mono (fun b H1 q1 => ?_) fun _ _ _ h => h⟩
    obtain ⟨w1, σ1, rfl, ok1, sl1, p1⟩ := q1
    exact PR.ret (R := Reps X.K) ok1 p1 .nil
theorem se_mkX0 (M : MkX X.prog X.w X.K X.mg X.base x n tp modes) (hr : Room (k + 2) X.A) (tk : Takes X W) (hmd : (0, [], false) ∈ modes := by simp) (hg : Gl X x := by rfl) (hdb : (x == ("__debug__" : Str)) = false := by decide) : SE X W (.Call (.Name x p) [] [] pos) (eMk x tp 0 0 n false aNil aNil) :=
  pe_imp (pe_mkX0 M hmd hr tk hg hdb) fun σV H Q q => by
    have z := t_mkX M.cls q
    obtain ⟨w, σ, h1, ok, sl, p⟩ := z
    have z2 := PR.ret (R := Reps X.K) ok p .nil
    obtain ⟨w1, σ1, h3, ok1, sl1, p1⟩ := z2
    have z3 := PR.ret (R := Reps X.K) ok1 p1 .nil
    rw [h3, h1] at z3
    exact z3
theorem se_mkXK {ma mk : Am} (M : MkX X.prog X.w X.K X.mg X.base x n tp modes) (hr : Room (k + 2) X.A) (tk : Takes X W) (ha : SA X W (e :: es) ma) (hk : SK X W kws mk) (hmd : (n0, ks, rv) ∈ modes := by simp) (h0 : n0 ≤ 1000 := by decide) (hg : Gl X x := by rfl) (hdb : (x == ("__debug__" : Str)) = false := by decide)
    (hall : (backToKw pos (keywordEach kws X.env)).all (·.1.isSome) = true := by rfl) (hks : (backToKw pos (keywordEach kws X.env)).filterMap (·.1) = ks := by rfl)
    (he : starEach (e :: es) X.env = (false, eval e X.env) :: starEach es X.env := by rfl) (hpl : ((backTo pos (starEach (e :: es) X.env)).any (·.1) || (backToKw pos (keywordEach kws X.env)).any (·.1.isNone)) = false := by rfl) :
    SE X W (.Call (.Name x p) (e :: es) kws pos) (eMk x tp n0 ks.length n rv ma mk) :=
  pe_imp (pe_mkXK M hmd h0 hr tk ha hk hg hdb hall hks he hpl) fun σV H Q q => t_mkX M.cls q
theorem se_mkXK0 {mk : Am} (M : MkX X.prog X.w X.K X.mg X.base x n tp modes) (hr : Room (k + 2) X.A) (tk : Takes X W) (hk : SK X W kws mk) (hmd : (0, ks, rv) ∈ modes := by simp) (hg : Gl X x := by rfl) (hdb : (x == ("__debug__" : Str)) = false := by decide)
    (hall : (backToKw pos (keywordEach kws X.env)).all (·.1.isSome) = true := by rfl) (hks : (backToKw pos (keywordEach kws X.env)).filterMap (·.1) = ks := by rfl)
    (hpl : ((backTo pos (starEach [] X.env)).any (·.1) || (backToKw pos (keywordEach kws X.env)).any (·.1.isNone)) = false := by rfl) :
    SE X W (.Call (.Name x p) [] kws pos) (eMk x tp 0 ks.length n rv aNil mk) :=
  pe_imp (pe_mkXK0 M hmd hr tk hk hg hdb hall hks hpl) fun σV H Q q => by
    have z := t_mkX M.cls q
    obtain ⟨w, σ, h1, ok, sl, p⟩ := z
    have z2 := PR.ret (R := Reps X.K) ok p .nil
    rw [h1] at z2
    exact z2
/-! ### fields -/
def attD (f : Str) (d : D) (st : Sto) : Res D := match d with
  | .ins C fs => (match fs.lookup f with
    | some v => .ok v st
    | none => .bad)
  | .ref n => (match st[n]? with
    | some (some (.ins C fs)) => (match fs.lookup f with
      | some v => .ok v st
      | none => .bad)
    | _ => .bad)
  | _ => .bad
theorem se_att {f : Str} {m : Em} (he : SE X W e m) (hb : attributeBase e f X.env (eval e X.env) = eval e X.env := by rfl) : SE X W (.Attribute e f pos) (eUn (attD f) m) := by
  refine ⟨fun pins s σV H Q I q => ?_⟩
  refine attr_of hb (thn (he.run pins s σV H (fun x H1 => ∃ w d, w.H = H1 ∧ Ok X.K w ∧ Rep X.K w x d ∧ PR X.K (Rep X.K) w (attD f d w.st) Q (xk W σV)) I ?_) fun u s1 ⟨x, H1, I1, rx, w, d, hH, ok, r, p⟩ => ?_)
  · obtain ⟨w, σ, rfl, ok, sl, p⟩ := q
    exact ⟨w, σ, rfl, ok, sl, PR.bind ok p fun d st x mu H1 e1 s1 ok1 r1 p1 => ⟨⟨mu, st, H1, w.op⟩, d, rfl, ok1, r1, p1⟩⟩
  · subst hH
    have pl : ∀ {a dx : Addr} {C : Str} {fv : List (Str × V)} {fs : List (Str × D)}, x = .ref a → w.H a = some (.ins (He.ga X.K C) dx fv) → RepF X.K w fv fs → InsC X.K C fs → PR X.K (Rep X.K) w (match fs.lookup f with | some v => .ok v w.st | none => .bad) Q (xk W σV) →
        wpAny (model X.prog X.w) X.A (getAttr u f true) (EP X pins σV Q) X.xe s1 := fun {a dx C fv fs} ex h hs hc p => by
      subst ex
      obtain rfl : u = Value.ref a := rx
      cases e : fs.lookup f with
      | none => rw [e] at p; exact p.elim
      | some d2 =>
        rw [e] at p
        obtain ⟨v, hv, rv⟩ := hs.lookup e
        exact getattr_ok I1 h hc.cls (hc.no f (by rw [e]; simp)) hv fun u' s2 I2 ru => ⟨v, w.H, I2, ru, PR.ret (R := Rep X.K) ok p rv⟩
    cases r with
    | ins h hl ho hs hc => exact pl rfl h hs hc p
    | @exo a dx C fv fs h h2 hl hl2 ho ho2 hs hc =>
      obtain rfl : u = Value.ref a := rx
      have p : PR X.K (Rep X.K) w (match fs.lookup f with | some v => .ok v w.st | none => .bad) Q (xk W σV) := p
      cases e : fs.lookup f with
      | none => rw [e] at p; exact p.elim
      | some d2 =>
        rw [e] at p
        obtain ⟨v, hv, rv⟩ := hs.lookup e
        have hx : ObjOk X.prog X.w w.H s1.heap dx (.xd fv) := I1.hok dx _ h2
        obtain ⟨mA, hns, hrl⟩ := hx
        obtain ⟨od, hod, hlk⟩ := lookIn_ns hns
        have z : ObjOk X.prog X.w w.H s1.heap a (xo a (He.ga X.K C) dx) := I1.hok a _ h
        obtain ⟨⟨o, vs, e1, e2, e3, e4⟩, _⟩ := z
        obtain ⟨u, hu, ru⟩ := RelO.some_of (v := v) (o := mA f) (by rw [← hv]; exact hrl f)
        have J : PySem.W.InstAt s1.heap a o (He.ga X.K C) (some od) := ⟨e1, e2, by unfold PySem.W.notCls; rw [e4] <;> rfl, by rw [e3]; exact hod⟩
        exact HandSPX.exc_get I1.kIn J hc.ga hc.gg hc.exC (PySem.W.findObj_own hc.hdC (hc.no f (by rw [e]; simp)) rfl (by rw [hlk, hu])) (handed_of ru) ⟨v, w.H, I1.tok _, ru, PR.ret (R := Rep X.K) ok p rv⟩
    | @ref a n h =>
      unfold attD at p
      cases e : w.st[n]? with
      | none => simp only [e] at p; exact p.elim
      | some o =>
        cases o with
        | none => simp only [e] at p; exact p.elim
        | some o =>
          have ro := ok.obj n a o h e
          cases o with
          | lst ds => simp only [e] at p; exact p.elim
          | ins C fs =>
            simp only [e] at p
            obtain ⟨dx, fv, h1, h2, hc⟩ := ro
            exact pl rfl h1 h2 hc p
    | non => exact p.elim
    | bl b => exact p.elim
    | int b => exact p.elim
    | str b => exact p.elim
    | ty b => exact p.elim
    | tup h h2 h3 => exact p.elim
    | ktup h h2 => exact p.elim
    | lst h h2 h3 h4 => exact p.elim
    | scr h h2 h3 h4 => exact p.elim
    | kscr h h2 h3 => exact p.elim
end
end Sim

set_option Elab.async false
set_option linter.all false
set_option maxRecDepth 100000
set_option maxHeartbeats 4000000
/-! facts by names, of our own -/
namespace Sim
open PySem PySem.Spec PyProof.Rows L2
theorem Bs.ok (b : Bs) : ∃ (B initId : String), ExcBaseFacts B b.new initId b.bm ∧ StoreFacts B b.bm "object.__setattr__" "object" := by
  cases b with
  | ve => exact ⟨_, _, PySem.F.excBase_ValueError, PySem.F.store_ValueError⟩
  | ae => exact ⟨_, _, PySem.F.excBase_ArithmeticError, PySem.F.store_ArithmeticError⟩
  | le => exact ⟨_, _, PySem.F.excBase_LookupError, PySem.F.store_LookupError⟩
  | ie => exact ⟨_, _, PySem.F.excBase_IndexError, PySem.F.store_IndexError⟩
structure ExF (K : Frag) (x : Str) (ns : List Str) : Prop where
  T : ExG K (He.ga K x)
  iC : PySem.W.findIn K (.ref (He.ga K x)) "__init__" = some (some (.ref (He.ma K (He.ga K x) "__init__")))
  tI : PySem.W.typeIn K (.ref (He.ma K (He.ga K x) "__init__")) = some (.type "function")
  ty : PySem.W.typeIn K (.ref (He.ga K x)) = some (.type "type")
  no : ∀ f ∈ ns, PySem.W.findIn K (.ref (He.ga K x)) f = some none
  cls : ∀ fs : List (Str × D), (∀ f ∈ fs.map (·.1), f ∈ ns) → ExcC K x fs
theorem mem_of_lookup' {f : Str} {v : D} : ∀ {fs : List (Str × D)}, fs.lookup f = some v → f ∈ fs.map (·.1)
  | [], h => by cases h
  | (g, y) :: r, h => by
    rw [List.lookup_cons] at h
    cases q : f == g with
    | true => rw [eq_of_beq q]; exact List.mem_cons_self
    | false => rw [q] at h; exact List.mem_cons_of_mem _ (mem_of_lookup' h)
theorem gtIn {K : Frag} : PySem.W.specialIn K (.builtin "object.__class__") "__get__" = some (some (.builtin "getset_descriptor.__get__")) := by kernel_rfl
theorem tkIn {K : Frag} : PySem.W.takesIn K (.builtin "object.__class__") = some true := by kernel_rfl
theorem exB_ok {K : Frag} {x : Str} {b : Bs} {ns : List Str} (h : exB K (He.ga K x) b ns = true) : ExF K x ns := by
  unfold exB at h
  simp only [Bool.and_eq_true, decide_eq_true_eq, List.all_eq_true] at h
  obtain ⟨h1, h2, h3, h4, h5, h6, h7, h8, h9, h10, h11, h12, h13, h15, h14⟩ := h
  obtain ⟨B, i, F, S⟩ := b.ok
  refine ⟨⟨⟨B, _, i, _, F, S, h1, h2⟩, h3, h6, h4⟩, h12, h13, h15, h14, fun fs hf => ⟨h5, h7, h8, h9, h3, h10, gtIn, tkIn, h11, fun f hl => ?_⟩⟩
  cases e : fs.lookup f with
  | none => exact absurd e hl
  | some v => exact h14 f (hf f (mem_of_lookup' e))
theorem incr_all {a : Nat} : ∀ {l : List Nat}, incr (a :: l) = true → ∀ b ∈ l, a < b
  | [], _, b, h => by cases h
  | c :: r, e, b, h => by
    have e : (decide (a < c) && incr (c :: r)) = true := e
    obtain ⟨h1, h2⟩ := Bool.and_eq_true_iff.mp e
    have h1 := of_decide_eq_true h1
    rcases List.mem_cons.mp h with h | h
    · rw [h]; exact h1
    · exact Nat.lt_trans h1 (incr_all h2 b h)
theorem incr_tail {a : Nat} {l : List Nat} (h : incr (a :: l) = true) : incr l = true := by
  cases l with
  | nil => rfl
  | cons b r => exact (Bool.and_eq_true_iff.mp (show (decide (a < b) && incr (b :: r)) = true from h)).2
theorem incr_inj {f : Str → Nat} : ∀ {l : List Str}, incr (l.map f) = true → ∀ a ∈ l, ∀ b ∈ l, f a = f b → a = b
  | [], _, a, ha, _, _, _ => by cases ha
  | c :: r, e, a, ha, b, hb, h => by
    have e : incr (f c :: r.map f) = true := e
    rcases List.mem_cons.mp ha with ha | ha <;> rcases List.mem_cons.mp hb with hb | hb
    · rw [ha, hb]
    · have := incr_all e (f b) (List.mem_map_of_mem hb)
      rw [ha] at h; omega
    · have := incr_all e (f a) (List.mem_map_of_mem ha)
      rw [hb] at h; omega
    · exact incr_inj (incr_tail e) a ha b hb h
def isO (ancO : Str → List Str) (leafs : List Str) (T : Str) : Tg → Option Bool
  | .c C => if C ∈ leafs then some (decide (T ∈ ancO C)) else none
  | _ => none
def isY (ancT : Str → List String) (leafs : List Str) (T : String) : Tg → Option Bool
  | .c C => if C ∈ leafs then some (decide (T ∈ ancT C)) else none
  | _ => none
section
variable {K : Frag} {ancO : Str → List Str} {ancT : Str → List String} {leafs owns : List Str}
theorem isTab_mro (h : isTabB K ancO ancT leafs owns = true) {C : Str} (hC : C ∈ leafs) : ∃ cd, PySem.W.clsIn K (He.ga K C) = some cd ∧ cd.mro = (ancO C).map (fun A => Value.ref (He.ga K A)) ++ (ancT C).map Value.type := by
  have z := of_decide_eq_true (List.all_eq_true.mp (Bool.and_eq_true_iff.mp h).1 C hC)
  cases e : PySem.W.clsIn K (He.ga K C) with
  | none => rw [e] at z; cases z
  | some cd => rw [e] at z; exact ⟨cd, rfl, Option.some.inj z⟩
theorem mro_sub {C : Str} {cd : ClassData} {v : Value} (h : PySem.W.clsIn K (He.ga K C) = some cd) (hn : cd.mro ≠ []) : PySem.W.subIn K (.ref (He.ga K C)) v = some (cd.mro.contains v) := by
  show PySem.W.mroIn K _ _ = _
  unfold PySem.W.mroIn
  rw [h, Option.bind_some, if_neg]
  intro z
  exact hn (List.isEmpty_iff.mp z)
theorem isO_ok (h : isTabB K ancO ancT leafs owns = true) (hs : ∀ C ∈ leafs, C ∈ ancO C ∧ ∀ A ∈ ancO C, A ∈ owns) {T : Str} (hT : T ∈ owns) (t : Tg) (b : Bool) (e : isO ancO leafs T t = some b) : PySem.W.kitOne K (t.val K) (.ref (He.ga K T)) = some b := by
  cases t with
  | b n => cases e
  | c C =>
    have e : (if C ∈ leafs then some (decide (T ∈ ancO C)) else none) = some b := e
    by_cases hC : C ∈ leafs
    · rw [if_pos hC] at e
      obtain ⟨cd, h1, h2⟩ := isTab_mro h hC
      obtain ⟨h3, h4⟩ := Bool.and_eq_true_iff.mp (Bool.and_eq_true_iff.mp h).2
      have inj := incr_inj h4
      have hT2 := List.all_eq_true.mp h3 T hT
      have hne : cd.mro ≠ [] := by
        rw [h2]
        intro z
        have z1 := (List.append_eq_nil_iff.mp z).1
        have z2 := (hs C hC).1
        rw [List.map_eq_nil_iff.mp z1] at z2
        cases z2
      have hc : cd.mro.contains (.ref (He.ga K T)) = decide (T ∈ ancO C) := by
        rw [h2]
        by_cases hm : T ∈ ancO C
        · rw [decide_eq_true hm]
          simp only [List.contains_eq_mem, decide_eq_true_eq]
          exact List.mem_append_left _ (List.mem_map_of_mem (f := fun A => Value.ref (He.ga K A)) hm)
        · rw [decide_eq_false hm]
          simp only [List.contains_eq_mem, decide_eq_false_iff_not]
          intro z
          rcases List.mem_append.mp z with z | z
          · obtain ⟨A, hA, hv⟩ := List.mem_map.mp z
            have q : He.ga K A = He.ga K T := Value.ref.inj hv
            rw [inj A ((hs C hC).2 A hA) T hT q] at hA
            exact hm hA
          · obtain ⟨A, hA, hv⟩ := List.mem_map.mp z
            cases hv
      show PySem.W.kitOne K (.ref (He.ga K C)) (.ref (He.ga K T)) = some b
      rw [← e]
      unfold PySem.W.kitOne
      by_cases q : (Value.ref (He.ga K C) == Value.ref (He.ga K T)) = true
      · rw [if_pos q]
        have q2 : He.ga K C = He.ga K T := Value.ref.inj (beq_iff_eq.mp q)
        have q3 := inj C ((hs C hC).2 C (hs C hC).1) T hT q2
        rw [← q3, decide_eq_true (hs C hC).1]
      · rw [if_neg q]
        unfold PySem.W.kitCls
        have q4 : ((PySem.W.clsIn K (He.ga K T)).isSome && PySem.W.typeIn K (.ref (He.ga K T)) == some (.type "type")) = true := by
          obtain ⟨a1, a2⟩ := Bool.and_eq_true_iff.mp hT2
          rw [a1, of_decide_eq_true a2]
          simp
        simp only [q4, if_true]
        rw [mro_sub h1 hne, hc]
    · rw [if_neg hC] at e; cases e
theorem isY_ok (h : isTabB K ancO ancT leafs owns = true) (hs : ∀ C ∈ leafs, C ∈ ancO C ∧ ∀ A ∈ ancO C, A ∈ owns) {T : String} (hT : PySem.W.kitMeta T = true) (t : Tg) (b : Bool) (e : isY ancT leafs T t = some b) : PySem.W.kitOne K (t.val K) (.type T) = some b := by
  cases t with
  | b n => cases e
  | c C =>
    have e : (if C ∈ leafs then some (decide (T ∈ ancT C)) else none) = some b := e
    by_cases hC : C ∈ leafs
    · rw [if_pos hC] at e
      obtain ⟨cd, h1, h2⟩ := isTab_mro h hC
      have hne : cd.mro ≠ [] := by
        rw [h2]
        intro z
        have z1 := (List.append_eq_nil_iff.mp z).1
        have z2 := (hs C hC).1
        rw [List.map_eq_nil_iff.mp z1] at z2
        cases z2
      have hc : cd.mro.contains (.type T) = decide (T ∈ ancT C) := by
        rw [h2]
        by_cases hm : T ∈ ancT C
        · rw [decide_eq_true hm]
          simp only [List.contains_eq_mem, decide_eq_true_eq]
          exact List.mem_append_right _ (List.mem_map_of_mem hm)
        · rw [decide_eq_false hm]
          simp only [List.contains_eq_mem, decide_eq_false_iff_not]
          intro z
          rcases List.mem_append.mp z with z | z
          · obtain ⟨A, hA, hv⟩ := List.mem_map.mp z
            cases hv
          · obtain ⟨A, hA, hv⟩ := List.mem_map.mp z
            rw [Value.type.inj hv] at hA
            exact hm hA
      show PySem.W.kitOne K (.ref (He.ga K C)) (.type T) = some b
      rw [← e]
      unfold PySem.W.kitOne
      have q : ¬ (Value.ref (He.ga K C) == Value.type T) = true := fun z => by
        have := beq_iff_eq.mp z
        cases this
      rw [if_neg q]
      unfold PySem.W.kitCls
      simp only [hT, if_true]
      rw [mro_sub h1 hne, hc]
    · rw [if_neg hC] at e; cases e
end
theorem SaysS.d {fa : List He.Fa} {fn : List He5.DefA} {xs : List (Frag → Bool)} {tf : List He.Defn} {h : Heap} {K : Frag} (c : SaysS fa fn xs tf h K) : He5.SaysA fa fn K := congrArg (fun z : AlS => z.1) c.o
theorem SaysS.x {fa : List He.Fa} {fn : List He5.DefA} {xs : List (Frag → Bool)} {tf : List He.Defn} {h : Heap} {K : Frag} (c : SaysS fa fn xs tf h K) (i : Nat) {f : Frag → Bool} (hi : xs[i]? = some f) : f K = true :=
  List.all_eq_true.mp (congrArg (fun z : AlS => z.2) c.o) f (List.mem_of_getElem? hi)
end Sim

set_option Elab.async false
set_option linter.all false
set_option maxRecDepth 100000
set_option maxHeartbeats 4000000
/-! a def, called with keywords: f(k = v, ..), f(e, .., k = v, ..) -/
namespace Sim
open PySem PySem.Spec PyProof.Rows L2
/-- a def by its name, with the ways it is called by keywords -/
structure FnK (P : Program) (w : World) (K : Frag) (mg : Str → Option Value) (base : Heap) (x : Str) (k n : Nat) (m : List D → Sto → Res D) (modes : List (Nat × List Str × Bool)) : Prop where
  ex : ∃ (fd : FuncData) (ps : List Str), FnOk P w K mg base (CXp P w) k (He.ga K x) fd ps (spM K n m) ∧ ∀ md ∈ modes, KBn K fd ps md.1 md.2.1 (gB md.2.2) (gB md.2.2)
  glo : mg x = some (.ref (He.ga K x))
  kp : PySem.W.keepIn K (.ref (He.ga K x)) = true
  len : ∀ ds st, m ds st ≠ .bad → ds.length = n
def eCallK (m : List D → Sto → Res D) (n0 nk : Nat) (rv : Bool) (ma mk : Am) : Em := fun σ st => (ma σ st).bind fun as st1 => (mk σ st1).bind fun bs st2 => if as.length = n0 ∧ bs.length = nk then m (gB rv as bs) st2 else .bad
section
variable {X : Cx} {W : WX} {x : Str} {j k n n0 : Nat} {m : List D → Sto → Res D} {modes : List (Nat × List Str × Bool)} {ks : List Str} {rv : Bool} {p pos : Pos} {e : Expr} {es : List Expr} {kws : List Keyword} {ma mk : Am}
theorem run_fnK {f : Addr} {fd : FuncData} {ps : List Str} {sp : Sp} {E : XK} {σ : L2.St} {H : Hp} {s : Shared} {pins : List (Addr × Obj)} {Q : VK} {us ws : List Value} {vs zs : List V}
    (F : FnOk X.prog X.w X.K X.mg X.base (CXp X.prog X.w) k f fd ps sp) (hr : Room k X.A) (B : KBn X.K fd ps n0 ks (gB rv) (gB rv)) (hx : PassesAt (CXp X.prog X.w) X σ E) (I : Inv X pins σ H s) (r : Vals vs us) (rz : Vals zs ws) (l1 : us.length = n0) (l2 : ws.length = ks.length)
    (h : sp (gB rv vs zs) H Q E) : wpAny (model X.prog X.w) X.A (call (.ref f) us (ks.zip ws)) (EP X pins σ Q) X.xe s := by
  refine wpAny_call (codeAny_mono (F.run X.A X.stack s H ⟨us, ks.zip ws⟩ (gB rv us ws) _ Q E hr I.env0 (B.to s us ws I.kIn l1 l2) (B.rel r rz) h) ?_)
  rintro (er | fl) s' hq
  · exact hx pins H s er s' I hq
  · cases fl <;> first | exact I.after hq | exact False.elim hq
theorem t_callK (hn : ∀ ds st, m ds st ≠ .bad → ds.length = n) {nk : Nat} {σV : L2.St} {H : Hp} {Q : VK} (q : TEm X.K (eCallK m n0 nk rv ma mk) W σV H Q) :
    TAm X.K ma W σV H fun vs H1 => TAm X.K mk W σV H1 fun zs H2 => vs.length = n0 ∧ zs.length = nk ∧ spM X.K n m (gB rv vs zs) H2 Q (WE W σV) := by
  obtain ⟨w, σ, rfl, ok, sl, p⟩ := q
  refine ⟨w, σ, rfl, ok, sl, PR.bind ok p fun as st vs mu H1 e1 s1 ok1 r1 p1 => ?_⟩
  refine ⟨⟨mu, st, H1, w.op⟩, σ, rfl, ok1, sl.step s1 ok, PR.bind ok1 p1 fun bs st2 zs mu2 H2 e2 s2 ok2 r2 p2 => ?_⟩
  by_cases hl : as.length = n0 ∧ bs.length = nk
  · rw [if_pos hl] at p2
    exact ⟨r1.length.trans hl.1, r2.length.trans hl.2, ⟨mu2, st2, H2, w.op⟩, gB rv as bs, rfl, ok2, Reps.rev (r1.step s2 ok1) r2, hn _ _ (fun z => by rw [z] at p2; exact p2), p2⟩
  · rw [if_neg hl] at p2
    exact p2.elim
theorem se_fnK (F : FnK X.prog X.w X.K X.mg X.base x k n m modes) (hr : Room j X.A) (hk : k ≤ j) (tk : Takes X W) (ha : SA X W (e :: es) ma) (hkw : SK X W kws mk) (hmd : (n0, ks, rv) ∈ modes) (hg : Gl X x := by rfl) (hdb : (x == ("__debug__" : Str)) = false := by decide)
    (hall : (backToKw pos (keywordEach kws X.env)).all (·.1.isSome) = true := by rfl) (hks : (backToKw pos (keywordEach kws X.env)).filterMap (·.1) = ks := by rfl)
    (he : starEach (e :: es) X.env = (false, eval e X.env) :: starEach es X.env := by rfl) (hpl : ((backTo pos (starEach (e :: es) X.env)).any (·.1) || (backToKw pos (keywordEach kws X.env)).any (·.1.isNone)) = false := by rfl) :
    SE X W (.Call (.Name x p) (e :: es) kws pos) (eCallK m n0 ks.length rv ma mk) := by
  obtain ⟨fd, ps, G, B⟩ := F.ex
  refine ⟨fun pins s σ H Q I h => wpAny_Call_Name_kw (ld_glob I hg F.glo ?_ hdb)⟩
  refine PySem.W.callWith_KW (h₀ := X.base) I.ok.mod.kin F.kp hall (thn (ha.run pos pins s σ H _ I (t_callK F.len h)) fun us s1 ⟨vs, H1, I1, r, q1⟩ => ?_) hpl he
  refine thn (hkw.run pos pins s1 σ H1 _ I1 q1) fun ws s2 ⟨zs, H2, I2, rz, l1, l2, q⟩ => ⟨I2.kIn, ?_⟩
  rw [hks]
  exact run_fnK G (hr.mono hk) (B _ hmd) (passAt tk σ) I2 r rz (r.length.symm.trans l1) (rz.length.symm.trans l2) q
theorem se_fnK0 (F : FnK X.prog X.w X.K X.mg X.base x k n m modes) (hr : Room j X.A) (hk : k ≤ j) (tk : Takes X W) (hkw : SK X W kws mk) (hmd : (0, ks, rv) ∈ modes) (hg : Gl X x := by rfl) (hdb : (x == ("__debug__" : Str)) = false := by decide)
    (hall : (backToKw pos (keywordEach kws X.env)).all (·.1.isSome) = true := by rfl) (hks : (backToKw pos (keywordEach kws X.env)).filterMap (·.1) = ks := by rfl)
    (hpl : ((backTo pos (starEach [] X.env)).any (·.1) || (backToKw pos (keywordEach kws X.env)).any (·.1.isNone)) = false := by rfl) :
    SE X W (.Call (.Name x p) [] kws pos) (eCallK m 0 ks.length rv aNil mk) := by
  obtain ⟨fd, ps, G, B⟩ := F.ex
  refine ⟨fun pins s σ H Q I h => wpAny_Call_Name_kw (ld_glob I hg F.glo ?_ hdb)⟩
  have h2 := t_callK F.len h
  obtain ⟨w, σ', h1, ok, sl, pr⟩ := h2
  have z := PR.ret (R := Reps X.K) ok pr .nil
  rw [h1] at z
  refine PySem.W.callWith_KW0 (h₀ := X.base) I.ok.mod.kin F.kp hall ?_ hpl
  refine thn (hkw.run pos pins s σ H _ I z) fun ws s2 ⟨zs, H2, I2, rz, l1, l2, q⟩ => ⟨I2.kIn, ?_⟩
  rw [hks]
  exact run_fnK (us := []) (vs := []) G (hr.mono hk) (B _ hmd) (passAt tk σ) I2 .nil rz rfl (rz.length.symm.trans l2) q
end
end Sim

set_option Elab.async false
set_option linter.all false
set_option maxRecDepth 100000
set_option maxHeartbeats 4000000
/-! plain instances: storing a field -/
namespace Sim
open PySem PySem.Spec PyProof.Rows L2
def putFD (f : Str) (y : D) : List (Str × D) → List (Str × D)
  | [] => [(f, y)]
  | (g, z) :: r => if g = f then (f, y) :: r else (g, z) :: putFD f y r
theorem putFD_look {f g : Str} {y : D} : ∀ {fs : List (Str × D)}, (putFD f y fs).lookup g ≠ none → g = f ∨ fs.lookup g ≠ none
  | [], h => by
    unfold putFD at h
    rw [List.lookup_cons] at h
    cases q : g == f with
    | true => exact .inl (eq_of_beq q)
    | false => rw [q] at h; simp at h
  | (k, z) :: r, h => by
    unfold putFD at h
    by_cases e : k = f
    · rw [if_pos e, List.lookup_cons] at h
      cases q : g == f with
      | true => exact .inl (eq_of_beq q)
      | false =>
        rw [q] at h
        refine .inr ?_
        rw [List.lookup_cons, e, q]
        exact h
    · rw [if_neg e, List.lookup_cons] at h
      rw [List.lookup_cons]
      cases q : g == k with
      | true => exact .inr (by simp)
      | false =>
        rw [q] at h
        exact putFD_look h
theorem InsC.put {K : Frag} {C f : Str} {y : D} {fs : List (Str × D)} (h : InsC K C fs) (hf : PySem.W.findIn K (.ref (He.ga K C)) f = some none) : InsC K C (putFD f y fs) :=
  ⟨h.cls, h.cn, h.gt, h.tk, h.ob, fun g hg => by
    rcases putFD_look hg with e | e
    · rw [e]; exact hf
    · exact h.no g e⟩
theorem RepF.put {K : Frag} {w : Wd} {f : Str} {v : V} {d : D} (r : Rep K w v d) : ∀ {fv : List (Str × V)} {fs : List (Str × D)}, RepF K w fv fs → RepF K w (putF f v fv) (putFD f d fs)
  | _, _, .nil => .cons r .nil
  | (g, x) :: vs, (_, y) :: ds, .cons q t => by
    by_cases e : g = f
    · have e1 : putF f v ((g, x) :: vs) = (g, v) :: vs := by unfold putF; rw [if_pos e]
      have e2 : putFD f d ((g, y) :: ds) = (f, d) :: ds := by unfold putFD; rw [if_pos e]
      rw [e1, e2, e]
      exact .cons r t
    · have e1 : putF f v ((g, x) :: vs) = (g, x) :: putF f v vs := by conv => lhs; unfold putF; rw [if_neg e]
      have e2 : putFD f d ((g, y) :: ds) = (g, y) :: putFD f d ds := by conv => lhs; unfold putFD; rw [if_neg e]
      rw [e1, e2]
      exact .cons q (RepF.put r t)
/-- o.f = v, o of a class of cs -/
def setF (cs : List Str) (f : Str) (o v : D) (st : Sto) : Option Sto := match o with
  | .ref n => (match st[n]? with
    | some (some (.ins C fs)) => if C ∈ cs ∧ fs.length < 1000 then some (st.set n (some (.ins C (putFD f v fs)))) else none
    | _ => none)
  | _ => none
@[simp] def sFldM (cs : List Str) (f : Str) (m o : Em) : Sm := fun σ st => (m σ st).toRS σ fun v st1 => (o σ st1).toRS σ fun x st2 => match setF cs f x v st2 with
  | some st3 => .nx σ st3
  | none => .bad
theorem ss_fld {X : Cx} {W : WX} {o e : Expr} {mo m : Em} {f : Str} {cs : List Str} {p' pos : Pos} (hno : ∀ C ∈ cs, PySem.W.findIn X.K (.ref (He.ga X.K C)) f = some none) (he : SE X W e m) (ho : SE X W o mo) (hs : swapsWith e (some (.Attribute o f p')) pos.line X.env = pure false := by rfl) :
    SS X W (.Assign [.Attribute o f p'] e pos) (sFldM cs f m mo) := ps_imp (ps_fld ho he hs) fun D σV H q => by
  obtain ⟨w, σ, rfl, ok, sl, p⟩ := q
  refine ⟨w, σ, rfl, ok, sl, PSr.toR ok sl p fun d st v mu H1 e1 s1 ok1 r1 p1 => ?_⟩
  have sl1 := sl.step s1 ok
  refine ⟨⟨mu, st, H1, w.op⟩, σ, rfl, ok1, sl1, PSr.toR ok1 sl1 p1 fun d2 st2 x mu2 H2 e2 s2 ok2 r2 p2 => ?_⟩
  cases e3 : setF cs f d2 d st2 with
  | none => rw [e3] at p2; exact p2.elim
  | some st3 =>
    rw [e3] at p2
    unfold setF at e3
    cases r2 with
    | @ref a n h =>
      cases q1 : st2[n]? with
      | none => simp only [q1] at e3; cases e3
      | some ob =>
        cases ob with
        | none => simp only [q1] at e3; cases e3
        | some ob =>
          cases ob with
          | lst ds => simp only [q1] at e3; cases e3
          | ins C fs =>
            simp only [q1] at e3
            by_cases hC : C ∈ cs ∧ fs.length < 1000
            · rw [if_pos hC] at e3
              cases e3
              obtain ⟨dx, fv, h1, h2, hc⟩ := ok2.obj n a _ h q1
              have hno' := hno C hC.1
              refine ⟨a, _, dx, fv, rfl, h1, hc.cls, hno', by rw [h2.length]; exact hC.2, ?_⟩
              have rv : Rep X.K ⟨mu2, st2, H2, w.op⟩ v d := r1.step s2 ok1
              have s3 := wr_step (w := ⟨mu2, st2, H2, w.op⟩) (o := .ins (He.ga X.K C) dx (putF f v fv)) (u := .ins C (putFD f d fs)) h q1
              have ok3 := wr_ok (K := X.K) (w := ⟨mu2, st2, H2, w.op⟩) (o := .ins (He.ga X.K C) dx (putF f v fv)) (u := .ins C (putFD f d fs)) ok2 h q1 ⟨dx, _, upd_same, (RepF.put rv h2).step s3 ok2, hc.put hno'⟩
              exact p2 σV mu2 _ s3 ok3 ((sl1.step s2 ok1).step s3 ok2)
            · rw [if_neg hC] at e3; cases e3
    | _ => cases e3
end Sim

set_option Elab.async false
set_option linter.all false
set_option maxRecDepth 100000
set_option maxHeartbeats 4000000
/-! plain instances: making one -/
namespace Sim
open PySem PySem.Spec PyProof.Rows L2
structure MkP (P : Program) (w : World) (K : Frag) (mg : Str → Option Value) (base : Heap) (x : Str) (k n : Nat) (m : List D → Sto → Res D) (modes : List (Nat × List Str × Bool)) : Prop where
  ex : ∃ (f : Addr) (fd : FuncData) (ps : List Str), Mk K (He.ga K x) f ∧ FnOk P w K mg base (CXp P w) k f fd ps (spM K (n + 1) m) ∧ ∀ md ∈ modes, KBn K fd ps (md.1 + 1) md.2.1 (gB md.2.2) (gB md.2.2)
  glo : mg x = some (.ref (He.ga K x))
  ins : InsC K x []
  len : ∀ ds st, m ds st ≠ .bad → ds.length = n + 1
def eMkP (x : Str) (m : List D → Sto → Res D) (n0 nk : Nat) (rv : Bool) (ma mk : Am) : Em := fun σ st => (ma σ st).bind fun as st1 => (mk σ st1).bind fun bs st2 => if as.length = n0 ∧ bs.length = nk then
  (m (gB rv (.ref st2.length :: as) bs) (st2 ++ [some (.ins x [])])).bind fun d st3 => (match d with
    | .non => .ok (.ref st2.length) st3
    | _ => .bad) else .bad
section
variable {X : Cx} {W : WX} {x : Str} {j k n n0 : Nat} {m : List D → Sto → Res D} {modes : List (Nat × List Str × Bool)} {ks : List Str} {rv : Bool} {p pos : Pos} {e : Expr} {es : List Expr} {kws : List Keyword} {ma mk : Am}
theorem run_mkP {C f : Addr} {fd : FuncData} {ps : List Str} {sp : Sp} {E : XK} {σ : L2.St} {H : Hp} {s : Shared} {pins : List (Addr × Obj)} {Q : VK} {us ws : List Value} {vs zs : List V}
    (M : Mk X.K C f) (F : FnOk X.prog X.w X.K X.mg X.base (CXp X.prog X.w) k f fd ps sp) (hr : Room (k + 1) X.A) (B : KBn X.K fd ps (n0 + 1) ks (gB rv) (gB rv)) (hx : PassesAt (CXp X.prog X.w) X σ E) (I : Inv X pins σ H s) (r : Vals vs us) (rz : Vals zs ws) (l1 : us.length = n0) (l2 : ws.length = ks.length)
    (h : ∀ y dx, H y = none → H dx = none → dx ≠ y → sp (gB rv (.ref y :: vs) zs) (upd (upd H dx (.own y)) y (.ins C dx [])) (fun v H2 => v = .non ∧ Q (.ref y) H2) E) : wpAny (model X.prog X.w) X.A (call (.ref C) us (ks.zip ws)) (EP X pins σ Q) X.xe s := by
  let y := s.heap.objs.size + 1
  have hq := h y s.heap.objs.size (I.hok.fresh (Nat.le_succ _)) (I.hok.fresh (Nat.le_refl _)) (Nat.ne_of_lt (Nat.lt_succ_self _))
  have J := Inv.made (C := C) I
  have rr : Vals (V.ref y :: vs) (Value.ref y :: us) := .cons rfl r
  refine wpAny_call (make_map (f := f) I.kIn M.makes M.init (beq_iff_eq.mp M.fn) (codeAny_mono (F.run _ X.stack _ _ ⟨Value.ref y :: us, ks.zip ws⟩ (gB rv (Value.ref y :: us) ws) _ _ E (hr.make C us (ks.zip ws)) (J.env0.make C us (ks.zip ws)) (B.to _ (Value.ref y :: us) ws J.kIn (by simp [l1]) l2) (B.rel rr rz) hq) ?_))
  rintro (er | fl) s' z
  · exact hx pins _ _ er s' J z
  · cases fl with
    | ret u =>
      obtain ⟨v, H', I3, rv', ev, q3⟩ := J.after z
      subst ev
      exact ⟨rv', ⟨V.ref y, H', I3, rfl, q3⟩⟩
    | next => exact z.elim
    | brk => exact z.elim
    | cont => exact z.elim
theorem t_mkP (M : InsC X.K x []) (hn : ∀ ds st, m ds st ≠ .bad → ds.length = n + 1) {nk : Nat} {σV : L2.St} {H : Hp} {Q : VK} (q : TEm X.K (eMkP x m n0 nk rv ma mk) W σV H Q) :
    TAm X.K ma W σV H fun vs H1 => TAm X.K mk W σV H1 fun zs H2 => vs.length = n0 ∧ zs.length = nk ∧ ∀ y dx, H2 y = none → H2 dx = none → dx ≠ y →
      spM X.K (n + 1) m (gB rv (.ref y :: vs) zs) (upd (upd H2 dx (.own y)) y (.ins (He.ga X.K x) dx [])) (fun v H3 => v = .non ∧ Q (.ref y) H3) (WE W σV) := by
  obtain ⟨w, σ, rfl, ok, sl, p⟩ := q
  refine ⟨w, σ, rfl, ok, sl, PR.bind ok p fun as st vs mu H1 e1 s1 ok1 r1 p1 => ?_⟩
  refine ⟨⟨mu, st, H1, w.op⟩, σ, rfl, ok1, sl.step s1 ok, PR.bind ok1 p1 fun bs st2 zs mu2 H2 e2 s2 ok2 r2 p2 => ?_⟩
  by_cases hl : as.length = n0 ∧ bs.length = nk
  · rw [if_pos hl] at p2
    refine ⟨r1.length.trans hl.1, r2.length.trans hl.2, fun y dx hy hd hne => ?_⟩
    let w2 : Wd := ⟨mu2, st2, H2, w.op⟩
    have okA : Ok X.K (w2.put dx (.own y)) := put_ok ok2 hd
    have sA : Step w2 (w2.put dx (.own y)) := put_step hd
    have hy' : (w2.put dx (.own y)).H y = none := by
      show upd H2 dx (.own y) y = none
      rw [upd_ne (Ne.symm hne)]
      exact hy
    let w3 : Wd := (w2.put dx (.own y)).add y (.ins (He.ga X.K x) dx []) (.ins x [])
    have sB : Step (w2.put dx (.own y)) w3 := add_step hy'
    have okB : Ok X.K w3 := add_ok okA hy' ⟨dx, [], upd_same, .nil, M⟩
    have sAB : Step w2 w3 := sA.trans sB ok2
    have hmu : w3.mu[st2.length]? = some y := by
      show (mu2 ++ [y])[st2.length]? = some y
      have e : mu2.length = st2.length := ok2.len
      rw [← e]
      simp
    have p3 := PR.step sAB ok2 p2
    have rr : Reps X.K w3 (gB rv (.ref y :: vs) zs) (gB rv (.ref st2.length :: as) bs) := Reps.rev (.cons (.ref hmu) (r1.step (s2.trans sAB ok1) ok1)) (r2.step sAB ok2)
    refine ⟨w3, _, rfl, okB, rr, ?_, ?_⟩
    · refine hn _ (st2 ++ [some (.ins x [])]) (fun z => ?_)
      rw [z] at p2
      exact p2
    · refine PR.bind okB p3 fun d st3 b mu4 H4 e4 s4 ok4 r4 p4 => ?_
      cases r4 with
      | non => exact ⟨rfl, PR.ret (R := Rep X.K) (w := ⟨mu4, st3, H4, w.op⟩) ok4 p4 (.ref (s4.mu_get hmu))⟩
      | _ => exact p4.elim
  · rw [if_neg hl] at p2
    exact p2.elim
theorem se_mkP (M : MkP X.prog X.w X.K X.mg X.base x k n m modes) (hr : Room j X.A) (hk : k + 1 ≤ j) (tk : Takes X W) (hkeep : PySem.W.keepIn X.K (.ref (He.ga X.K x)) = true) (ha : SA X W (e :: es) ma) (hmd : (n0, [], false) ∈ modes) (hg : Gl X x := by rfl) (hdb : (x == ("__debug__" : Str)) = false := by decide)
    (he : starEach (e :: es) X.env = (false, eval e X.env) :: starEach es X.env := by rfl) (hpl : (backTo pos (starEach es X.env)).any (·.1) = false := by rfl) :
    SE X W (.Call (.Name x p) (e :: es) [] pos) (eMkP x m n0 0 false ma aNil) := by
  obtain ⟨f, fd, ps, Mk0, F, B⟩ := M.ex
  refine ⟨fun pins s σ H Q I h => wpAny_Call_Name_kw (ld_glob I hg M.glo ?_ hdb)⟩
  refine PySem.W.callWith_K (h₀ := X.base) I.ok.mod.kin hkeep (thn (ha.run pos pins s σ H _ I (t_mkP M.ins M.len h)) fun us s1 ⟨vs, H1, I1, r, q1⟩ => ⟨I1.kIn, ?_⟩) he hpl
  obtain ⟨w, σ', h1, ok, sl, pr⟩ := q1
  have z := PR.ret (R := Reps X.K) ok pr .nil
  rw [h1] at z
  obtain ⟨l1, _, q⟩ := z
  exact run_mkP (ks := []) (ws := []) (zs := []) Mk0 F (hr.mono hk) (B _ hmd) (passAt tk σ) I1 r .nil (r.length.symm.trans l1) rfl q
end
end Sim

set_option Elab.async false
set_option linter.all false
set_option maxRecDepth 100000
set_option maxHeartbeats 4000000
/-! methods of plain instances: o.m(e, ..), no defaults -/
namespace Sim
open PySem PySem.Spec PyProof.Rows L2
def insOf (C m : Str) (d : D) (st : Sto) : Bool := match d with
  | .ins C' fs => decide (C' = C) && (fs.lookup m).isNone
  | .ref n => (match st[n]? with
    | some (some (.ins C' fs)) => decide (C' = C) && (fs.lookup m).isNone
    | _ => false)
  | _ => false
theorem insOf_ok {K : Frag} {w : Wd} {C m : Str} {v : V} {d : D} (hno : PySem.W.findIn K (.ref (He.ga K C)) "__getattribute__" ≠ some (some (.builtin "BaseException.__getattribute__"))) (ok : Ok K w) (r : Rep K w v d) (h : insOf C m d w.st = true) :
    ∃ a dx fv, v = .ref a ∧ w.H a = some (.ins (He.ga K C) dx fv) ∧ fv.lookup m = none ∧ Cls K (He.ga K C) := by
  have fin : ∀ {C' : Str} {fs : List (Str × D)}, (decide (C' = C) && (fs.lookup m).isNone) = true → C' = C ∧ fs.lookup m = none := fun {C' fs} h => by
    obtain ⟨h1, h2⟩ := Bool.and_eq_true_iff.mp h
    exact ⟨of_decide_eq_true h1, Option.isNone_iff_eq_none.mp h2⟩
  cases r with
  | ins h1 hl ho hs hc =>
    obtain ⟨rfl, e⟩ := fin h
    exact ⟨_, _, _, rfl, h1, hs.lookup_none e, hc.cls⟩
  | exo h1 h2 hl hl2 ho ho2 hs hc =>
    obtain ⟨rfl, e⟩ := fin h
    exact absurd hc.ga hno
  | @ref a n h1 =>
    unfold insOf at h
    cases e : w.st[n]? with
    | none => simp only [e] at h; cases h
    | some o =>
      cases o with
      | none => simp only [e] at h; cases h
      | some o =>
        cases o with
        | lst ds => simp only [e] at h; cases h
        | ins C' fs =>
          simp only [e] at h
          obtain ⟨rfl, q⟩ := fin h
          obtain ⟨dx, fv, h2, h3, hc⟩ := ok.obj n a _ h1 e
          exact ⟨_, _, _, rfl, h2, h3.lookup_none q, hc.cls⟩
  | _ => cases h
def eMeth (C mn : Str) (f : List D → Sto → Res D) (mo : Em) (ma : Am) : Em := fun σ st => (mo σ st).bind fun o st1 => if insOf C mn o st1 = true then (ma σ st1).bind fun as st2 => f (o :: as) st2 else .bad
theorem se_meth {X : Cx} {W : WX} {C mn : Str} {g : Addr} {fd : FuncData} {ps : List Str} {j k n : Nat} {f : List D → Sto → Res D} {o e : Expr} {es : List Expr} {mo : Em} {ma : Am} {apos pos : Pos} {pl : Sem Bool}
    (hno : PySem.W.findIn X.K (.ref (He.ga X.K C)) "__getattribute__" ≠ some (some (.builtin "BaseException.__getattribute__"))) (hm : Meth X.K (He.ga X.K C) mn g) (F : FnOk X.prog X.w X.K X.mg X.base (CXp X.prog X.w) k g fd ps (spM X.K n f)) (hr : Room j X.A) (hk : k ≤ j)
    (hb : Binds X.K fd ps []) (tk : Takes X W) (hn : ∀ ds st, f ds st ≠ .bad → ds.length = n) (ho : SE X W o mo) (ha : SA X W (e :: es) ma)
    (hst : starEach (e :: es) X.env = (false, eval e X.env) :: starEach es X.env := by rfl) (hpl : (backTo pos (starEach es X.env)).any (·.1) = false := by rfl)
    (ht : eval (.Call (.Attribute o mn apos) (e :: es) [] pos) X.env = (do
      let ov ← eval o X.env
      standAt apos.atName
      let (f, first) ← holding [ov] (getMethod ov mn pl)
      callWith pos f first (backTo pos (starEach (e :: es) X.env)) (backToKw pos (keywordEach [] X.env))) := by rfl) :
    SE X W (.Call (.Attribute o mn apos) (e :: es) [] pos) (eMeth C mn f mo ma) := by
  refine ⟨fun pins s σV H Q I q => PySem.W.methodCall_KW (pl := pl) (thn (ho.run pins s σV H (fun x H1 => ∃ a dx fv, x = .ref a ∧ H1 a = some (.ins (He.ga X.K C) dx fv) ∧ fv.lookup mn = none ∧ Cls X.K (He.ga X.K C) ∧
      TAm X.K ma W σV H1 fun vs H2 => spM X.K n f (.ref a :: vs) H2 Q (WE W σV)) I ?_) fun u s1 ⟨x, H1, I1, rx, a, dx, fv, ex, ea, l, c, q1⟩ => ?_) ht⟩
  · obtain ⟨w, σ, rfl, ok, sl, p⟩ := q
    refine ⟨w, σ, rfl, ok, sl, PR.bind ok p fun d st x mu H1 e1 s1 ok1 r1 p1 => ?_⟩
    by_cases hi : insOf C mn d st = true
    · rw [if_pos hi] at p1
      obtain ⟨a, dx, fv, rfl, h1, h2, h3⟩ := insOf_ok (w := ⟨mu, st, H1, w.op⟩) hno ok1 r1 hi
      refine ⟨a, dx, fv, rfl, h1, h2, h3, ⟨mu, st, H1, w.op⟩, σ, rfl, ok1, sl.step s1 ok, PR.bind ok1 p1 fun as st2 vs mu2 H2 e2 s2 ok2 r2 p2 => ?_⟩
      exact ⟨⟨mu2, st2, H2, w.op⟩, d :: as, rfl, ok2, .cons (r1.step s2 ok1) r2, hn _ _ (fun z => by rw [z] at p2; exact p2), p2⟩
    · rw [if_neg hi] at p1
      exact p1.elim
  · subst ex
    obtain rfl : u = Value.ref a := rx
    refine getmeth_ok I1 ea c hm l ?_
    refine PySem.W.callWith_K (first := [.ref a]) (h₀ := X.base) I.ok.mod.kin hm.kp (thn (ha.run pos pins s1 σV H1 _ I1 q1) fun us s2 ⟨vs, H2, I2, r, q2⟩ => ⟨I2.kIn, ?_⟩) hst hpl
    exact run_fnS (us := .ref a :: us) (vs := .ref a :: vs) (E := WE W) F (hr.mono hk) hb (passAt tk σV) I2 (.cons rfl r) q2
end Sim

set_option Elab.async false
set_option linter.all false
set_option maxRecDepth 100000
set_option maxHeartbeats 4000000
/-! texts: methods, int and str, f-strings, times, sign by sign, in; bit_length -/
namespace Sim
open PySem PySem.Spec PyProof.Rows L2
section
variable {K : Frag}
def s0E (f : Str → D) : D → Sto → Res D := fun d st => match d with
  | .str a => .ok (f a) st
  | _ => .bad
def s0D (f : Str → D) : D → List D → Sto → Res D := fun d ds st => match ds with
  | [] => s0E f d st
  | _ :: _ => .bad
theorem gmt_s0 {f : Str → D} {g : Str → V} (h : ∀ w a, Rep K w (g a) (f a)) : GMt K (fun x xs H Q => ∃ a, x = .str a ∧ xs = [] ∧ True ∧ Q (g a) H) (s0D f) := by
  intro w x xs d ds Q E ok rx rs p
  cases rs with
  | nil =>
    cases rx with
    | str a => exact ⟨a, rfl, rfl, trivial, PR.ret (R := Rep K) ok p (h _ _)⟩
    | _ => exact p.elim
  | cons _ _ => exact p.elim
def s1E (f : Str → Str → D) : D → D → Sto → Res D := fun d e st => match d with
  | .str a => (match e with
    | .str b => .ok (f a b) st
    | _ => .bad)
  | _ => .bad
def s1D (f : D → D → Sto → Res D) : D → List D → Sto → Res D := fun d ds st => match ds with
  | [] => .bad
  | e :: r => (match r with
    | [] => f d e st
    | _ :: _ => .bad)
theorem gmt_1 {r : V → List V → Hp → VK → Prop} {f : D → D → Sto → Res D} (h : ∀ (w : Wd) (x y : V) (d e : D) (Q : VK) (E : XK), Ok K w → Rep K w x d → Rep K w y e → PR K (Rep K) w (f d e w.st) Q E → r x [y] w.H Q) : GMt K r (s1D f) := by
  intro w x xs d ds Q E ok rx rs p
  cases rs with
  | nil => exact p.elim
  | cons r1 t =>
    cases t with
    | nil => exact h w x _ d _ Q E ok rx r1 p
    | cons _ _ => exact p.elim
theorem gmt_s1 {f : Str → Str → D} {g : Str → Str → V} (h : ∀ w a b, Rep K w (g a b) (f a b)) : GMt K (fun x xs H Q => ∃ a b, x = .str a ∧ xs = [.str b] ∧ Q (g a b) H) (s1D (s1E f)) :=
  gmt_1 fun w x y d e Q E ok rx ry p => by
    cases rx with
    | str a =>
      cases ry with
      | str b => exact ⟨a, b, rfl, rfl, PR.ret (R := Rep K) ok p (h _ _ _)⟩
      | _ => exact p.elim
    | _ => exact p.elim
def startD := s1D (s1E fun a b => .bl (Txt.startswith a b))
theorem gmt_start : GMt K (fun x xs H Q => ∃ a b, x = .str a ∧ xs = [.str b] ∧ Q (.bl (Txt.startswith a b)) H) startD := gmt_s1 fun _ _ _ => .bl _
def isdigitD := s0D fun a => .bl (Txt.isdigit a)
theorem gmt_isdigit : GMt K (fun x xs H Q => ∃ a, x = .str a ∧ xs = [] ∧ True ∧ Q (.bl (Txt.isdigit a)) H) isdigitD := gmt_s0 fun _ _ => .bl _
def isasciiD := s0D fun a => .bl (Txt.isascii a)
theorem gmt_isascii : GMt K (fun x xs H Q => ∃ a, x = .str a ∧ xs = [] ∧ True ∧ Q (.bl (Txt.isascii a)) H) isasciiD := gmt_s0 fun _ _ => .bl _
theorem reps_strs {w : Wd} : ∀ l : List Str, Reps K w (l.map V.str) (l.map D.str)
  | [] => .nil
  | x :: r => .cons (.str x) (reps_strs r)
def splitE : D → D → Sto → Res D := fun d e st => match d with
  | .str a => (match e with
    | .str b => if (b.length == 0) = false ∧ a.length + 2 ≤ line then .ok (.lst ((Txt.split a b).map .str)) st else .bad
    | _ => .bad)
  | _ => .bad
def splitD := s1D splitE
theorem gmt_split : GMt K (fun x xs H Q => ∃ a b, x = .str a ∧ xs = [.str b] ∧ (b.length == 0) = false ∧ a.length + 2 ≤ sizeLine ∧ rNewStrs (Txt.split a b) H Q) splitD :=
  gmt_1 fun w x y d e Q E ok rx ry p => by
    cases rx with
    | str a =>
      cases ry with
      | str b =>
        unfold splitE at p
        simp only at p
        by_cases h : (b.length == 0) = false ∧ a.length + 2 ≤ line
        · rw [if_pos h] at p
          exact ⟨a, b, rfl, rfl, h.1, by rw [line_eq]; exact h.2, fun q hq => PR.new ok hq p (rep_new_lst ok hq (reps_strs _))⟩
        · rw [if_neg h] at p; exact p.elim
      | _ => exact p.elim
    | _ => exact p.elim
/-- int(text) -/
def intS : List D → Sto → Res D := fun ds st => match ds with
  | [.str s] => (match PySem.intText? s with
    | some n => if s.length ≤ 640 then .ok (.int n) st else .bad
    | none => .bad)
  | _ => .bad
theorem gc_intS : GC K (fun xs H Q => ∃ a n, xs = [.str a] ∧ PySem.intText? a = some n ∧ a.length ≤ 640 ∧ Q (.int n) H) intS := gc1 (fun _ => rfl) (fun a _ _ _ => by cases a <;> rfl) fun w x d Q E ok r p => by
  cases r with
  | str s =>
    unfold intS at p
    simp only at p
    cases e : PySem.intText? s with
    | none => rw [e] at p; exact p.elim
    | some n =>
      rw [e] at p
      simp only at p
      by_cases h : s.length ≤ 640
      · rw [if_pos h] at p
        exact ⟨s, n, rfl, e, h, PR.ret (R := Rep K) ok p (.int _)⟩
      · rw [if_neg h] at p; exact p.elim
  | _ => exact p.elim
def txI (i : Int) : Str := Str.ofString (toString i)
/-- str(int) -/
def strI : List D → Sto → Res D := fun ds st => match ds with
  | [.int i] => if i.natAbs.log2 < 1920 then .ok (.str (txI i)) st else .bad
  | _ => .bad
theorem gc_strI : GC K (fun xs H Q => ∃ i, xs = [.int i] ∧ i.natAbs.log2 < 1920 ∧ Q (.str (toString i)) H) strI := gc1 (fun _ => rfl) (fun a _ _ _ => by cases a <;> rfl) fun w x d Q E ok r p => by
  cases r with
  | int i =>
    unfold strI at p
    simp only at p
    by_cases h : i.natAbs.log2 < 1920
    · rw [if_pos h] at p
      exact ⟨i, rfl, h, PR.ret (R := Rep K) ok p (.str _)⟩
    · rw [if_neg h] at p; exact p.elim
  | _ => exact p.elim
end
section
variable {X : Cx} {W : WX}
/-! ### f-strings -/
def eFmt (m : Em) : Em := fun σ st => (m σ st).bind fun d st1 => match d with
  | .str y => if y.length ≤ line then .ok (.str y) st1 else .bad
  | .int i => if i.natAbs.log2 < 1920 then .ok (.str (txI i)) st1 else .bad
  | _ => .bad
theorem se_fmt {e : Expr} {m : Em} {pos : Pos} (h : SE X W e m) : SE X W (.FormattedValue e (-1) none pos) (eFmt m) := pe_imp (pe_fmt h) fun σV H Q q => by
  obtain ⟨w, σ, rfl, ok, sl, p⟩ := q
  refine ⟨w, σ, rfl, ok, sl, PR.bind ok p fun d st x mu H1 e1 s1 ok1 r1 p1 => ?_⟩
  cases r1 with
  | str y =>
    by_cases h : y.length ≤ line
    · simp only [if_pos h] at p1
      exact .inl ⟨y, rfl, by rw [line_eq]; exact h, PR.ret (R := Rep X.K) ok1 p1 (.str _)⟩
    · simp only [if_neg h] at p1; exact p1.elim
  | int i =>
    by_cases h : i.natAbs.log2 < 1920
    · simp only [if_pos h] at p1
      exact .inr ⟨i, rfl, h, PR.ret (R := Rep X.K) ok1 p1 (.str _)⟩
    · simp only [if_neg h] at p1; exact p1.elim
  | _ => exact p1.elim
theorem se_js1 {e : Expr} {m : Em} {pos : Pos} (h : SE X W e m) : SE X W (.JoinedStr [e] pos) m := pe_joined1 h
def jsM : List Em → Str → Sl → Sto → Res Str
  | [], acc, _, st => .ok acc st
  | m :: ms, acc, σ, st => (m σ st).bind fun d st1 => match d with
    | .str y => if (acc ++ y).length ≤ line then jsM ms (acc ++ y) σ st1 else .bad
    | _ => .bad
def eJs (ms : List Em) : Em := fun σ st => (jsM ms Str.empty σ st).bind fun s st1 => .ok (.str s) st1
inductive SJ (X : Cx) (W : WX) : List Expr → List Em → Prop where
  | nil : SJ X W [] []
  | cons {e : Expr} {m : Em} {es : List Expr} {ms : List Em} (h : SE X W e m) (r : SJ X W es ms) : SJ X W (e :: es) (m :: ms)
theorem SJ.pj {es : List Expr} {ms : List Em} (h : SJ X W es ms) : PJ X es (ms.map fun m => TEm X.K m W) := by
  induction h with
  | nil => exact .nil
  | cons h r ih => exact .cons h ih
theorem js_reads {σV : L2.St} {σ : Sl} {Q : VK} : ∀ {ms : List Em} {acc : Str} {w : Wd}, Ok X.K w → Slots X.K w σ σV → PR X.K (Rep X.K) w ((jsM ms acc σ w.st).bind fun s st1 => .ok (.str s) st1) Q (xk W σV) →
    tJs (ms.map fun m => TEm X.K m W) acc σV w.H fun out H1 => Q (.str out) H1
  | [], acc, w, ok, sl, p => PR.ret (R := Rep X.K) ok p (.str _)
  | m :: ms, acc, w, ok, sl, p => by
    have e0 : ((jsM (m :: ms) acc σ w.st).bind fun s st1 => (Res.ok (.str s) st1 : Res D)) = (m σ w.st).bind fun d st1 => (match d with
      | .str y => if (acc ++ y).length ≤ line then (jsM ms (acc ++ y) σ st1).bind fun s st1 => .ok (.str s) st1 else .bad
      | _ => .bad) := by
      show ((m σ w.st).bind _).bind _ = _
      cases m σ w.st with
      | ok d st =>
        cases d with
        | str y =>
          simp only [Res.bind]
          by_cases h : (acc ++ y).length ≤ line
          · rw [if_pos h, if_pos h]
          · rw [if_neg h, if_neg h]
        | _ => rfl
      | exc x st => rfl
      | bad => rfl
    rw [e0] at p
    refine ⟨w, σ, rfl, ok, sl, PR.bind ok p fun d st x mu H1 e1 s1 ok1 r1 p1 => ?_⟩
    cases r1 with
    | str y =>
      by_cases h : (acc ++ y).length ≤ line
      · simp only [if_pos h] at p1
        exact ⟨y, rfl, by rw [line_eq]; exact h, js_reads (w := ⟨mu, st, H1, w.op⟩) ok1 (sl.step s1 ok) p1⟩
      · simp only [if_neg h] at p1; exact p1.elim
    | _ => exact p1.elim
theorem se_js {v1 v2 : Expr} {rest : List Expr} {ms : List Em} {pos : Pos} (h : SJ X W (v1 :: v2 :: rest) ms) : SE X W (.JoinedStr (v1 :: v2 :: rest) pos) (eJs ms) := pe_imp (pe_joined h.pj) fun σV H Q q => by
  obtain ⟨w, σ, rfl, ok, sl, p⟩ := q
  exact js_reads ok sl p
/-! ### text times number -/
def timesS (a : Str) (n : Int) : Str := ⟨(List.replicate n.toNat a.cps).foldl (· ++ ·) #[]⟩
def mulS : D → D → Sto → Res D := fun x y st => match x with
  | .str a => (match y with
    | .int n => if 2 ≤ n ∧ n ≤ 10000 ∧ a.length ≠ 0 ∧ a.length ≤ 1000 ∧ (timesS a n).length ≤ line then .ok (.str (timesS a n)) st else .bad
    | _ => .bad)
  | _ => .bad
theorem op_mulS : OpR X (binaryOp .Mult) (fun x y H Q => ∃ (a : Str) (n : Int), x = .str a ∧ y = .int n ∧ (2 ≤ n ∧ n ≤ 10000 ∧ a.length ≠ 0 ∧ a.length ≤ 1000 ∧ (timesS a n).length ≤ line) ∧ Q (.str (timesS a n)) H) := by
  intro pins s σ H x y v u Q I rx ry h
  obtain ⟨a, n, rfl, rfl, ⟨h1, h2, h3, h4, h5⟩, q⟩ := h
  obtain ⟨t, rfl⟩ := rx
  obtain ⟨t', rfl⟩ := ry
  have e1 : (n == 1) = false := by
    cases z : n == 1 with
    | false => rfl
    | true => have := eq_of_beq z; omega
  have e2 : (a.length == 0) = false := by
    cases z : a.length == 0 with
    | false => rfl
    | true => exact absurd (eq_of_beq z) h3
  refine PySem.P.mul_str ?_ (fun _ _ => ?_) (fun _ _ => ?_) ?_
  · rw [decide_eq_false (show ¬ n < -(2 ^ 63 : Int) by omega), decide_eq_false (show ¬ n ≥ 2 ^ 63 by omega)] <;> rfl
  · have h6 : (1000 : Int) ≤ (2 ^ 63 - 1) / n := by
      rw [Int.le_ediv_iff_mul_le (by omega)]
      omega
    omega
  · have h7 : a.length * n.toNat ≤ 1000 * 10000 := Nat.mul_le_mul h4 (by omega)
    cases z : Builtin.Str.tooLong (a.length * n.toNat) with
    | false => rfl
    | true =>
      unfold Builtin.Str.tooLong at z
      have := of_decide_eq_true z
      rw [sizeLine_eq] at this
      omega
  · rw [if_neg (show ¬ n < 1 by omega), e1, e2]
    exact ⟨by rw [line_eq]; exact h5, ⟨.str (timesS a n), H, I.tok _, ⟨_, rfl⟩, q⟩⟩
theorem se_mulS {a b : Expr} {ma mb : Em} {pos : Pos} (ha : SE X W a ma) (hb : SE X W b mb) : SE X W (.BinOp a .Mult b pos) (eBin mulS ma mb) := se_bin op_mulS (by
  intro w x y dx dy Q E ok rx ry p
  cases rx with
  | str a =>
    cases ry with
    | int n =>
      unfold mulS at p
      simp only at p
      split at p
      · rename_i h
        exact ⟨a, n, rfl, rfl, h, PR.ret (R := Rep X.K) ok p (.str _)⟩
      · exact p.elim
    | _ => exact p.elim
  | _ => exact p.elim) ha hb
/-! ### sign by sign -/
def signsOf (z : Str) : List D := z.cps.toList.map fun c => .str ⟨#[c]⟩
def iStrM (m : Em) : Im := fun σ st => (m σ st).bind fun d st1 => match d with
  | .str z => .ok (signsOf z) st1
  | _ => .bad
theorem si_str {tg e : Expr} {m : Em} (h : SE X W e m) : SI X W tg e (iStrM m) := pi_imp (pi_str h) fun σV H R q => by
  obtain ⟨w, σ, rfl, ok, sl, p⟩ := q
  refine ⟨w, σ, rfl, ok, sl, PR.bind ok p fun d st v mu H1 e1 s1 ok1 r1 p1 => ?_⟩
  cases r1 with
  | str z =>
    refine ⟨z, rfl, PR.ret (w := ⟨mu, st, H1, w.op⟩) (R := fun w J items => Wk X.K w J items) ok1 p1 ?_⟩
    refine ⟨_, _, by rw [show (signsOf z).length = z.cps.size by unfold signsOf; simp]; exact walk_str, fun _ _ _ => trivial, fun i d w x H' hi s o y => ?_⟩
    obtain ⟨e1, c, e2, e3⟩ := y
    subst e3
    have hd : d = .str ⟨#[c]⟩ := by
      unfold signsOf at hi
      rw [List.getElem?_map, Array.getElem?_toList, e2] at hi
      exact (Option.some.inj hi).symm
    subst hd
    exact ⟨w, e1.symm, rfl, rfl, .refl _, o, .str _⟩
  | _ => exact p1.elim
/-- a sign in a text -/
def inCD : D → D → Sto → Res D := fun x y st => match x with
  | .str s => (match y with
    | .str z => (match s.cps.toList with
      | [c] => .ok (.bl (decide (c ∈ z.cps.toList))) st
      | _ => .bad)
    | _ => .bad)
  | _ => .bad
theorem gop_inC {K : Frag} : GOp K (fun x y H Q => ∃ (c : Nat) (z : Str), x = .str ⟨#[c]⟩ ∧ y = .str z ∧ Q (.bl (decide (c ∈ z.cps.toList))) H) inCD := by
  intro w x y dx dy Q E ok rx ry p
  cases rx with
  | str s =>
    cases ry with
    | str z =>
      unfold inCD at p
      simp only at p
      split at p
      · rename_i c e
        refine ⟨c, z, ?_, rfl, PR.ret (R := Rep K) ok p (.bl _)⟩
        have : s.cps = #[c] := by rw [← Array.toArray_toList (xs := s.cps), e]
        cases s
        exact congrArg (fun a => V.str ⟨a⟩) this
      · exact p.elim
    | _ => exact p.elim
  | _ => exact p.elim
theorem se_inC {a b : Expr} {ma mb : Em} {pos : Pos} (ha : SE X W a ma) (hb : SE X W b mb) (hm : behindInMarks .In b = false := by rfl) : SE X W (.Compare a [.In] [b] pos) (eBin inCD ma mb) := se_cmp op_in_sign gop_inC ha hb hm
/-! ### bit_length -/
def bitsI : D → Sto → Res D := fun d st => match d with
  | .int i => .ok (.int (Builtin.Int.intBits i : Nat)) st
  | _ => .bad
theorem se_bits {o : Expr} {m : Em} {apos pos : Pos} (h : SE X W o m) (hbase : attributeBase o "bit_length" X.env (eval o X.env) = eval o X.env := by rfl) (hline : (apos.endLine == pos.line) = true := by rfl) : SE X W (.Call (.Attribute o "bit_length" apos) [] [] pos) (eUn bitsI m) :=
  pe_imp (pe_bits h hbase hline) fun σV H Q q => by
    obtain ⟨w, σ, rfl, ok, sl, p⟩ := q
    refine ⟨w, σ, rfl, ok, sl, PR.bind ok p fun d st x mu H1 e1 s1 ok1 r1 p1 => ?_⟩
    cases r1 with
    | int i => exact ⟨i, rfl, PR.ret (R := Rep X.K) ok1 p1 (.int _)⟩
    | _ => exact p1.elim
end
end Sim

set_option Elab.async false
set_option linter.all false
set_option maxRecDepth 100000
set_option maxHeartbeats 4000000
/-! static methods; constants of the module; facts of classes of plain instances -/
namespace Sim
open PySem PySem.Spec PyProof.Rows L2
/-! ### facts -/
structure InF (K : Frag) (x : Str) (ns : List Str) : Prop where
  cls : ∀ fs : List (Str × D), (∀ f ∈ fs.map (·.1), f ∈ ns) → InsC K x fs
  mkr : Mk K (He.ga K x) (He.ma K (He.ga K x) "__init__")
  no : ∀ f ∈ ns, PySem.W.findIn K (.ref (He.ga K x)) f = some none
  hno : PySem.W.findIn K (.ref (He.ga K x)) "__getattribute__" ≠ some (some (.builtin "BaseException.__getattribute__"))
theorem insB_ok {K : Frag} {x : Str} {ns : List Str} (h : insB K (He.ga K x) ns = true) : InF K x ns := by
  unfold insB at h
  simp only [Bool.and_eq_true, decide_eq_true_eq, List.all_eq_true] at h
  obtain ⟨h1, h2, h3, h4, h5, h6, h7, h8, h9, h10, h11, h12⟩ := h
  refine ⟨fun fs hf => ⟨⟨h1, h2, h3, h4⟩, h5, gtIn, tkIn, h6, fun f hl => ?_⟩, ⟨h7, h8, h9, h10⟩, h12, by rw [h11]; decide⟩
  cases e : fs.lookup f with
  | none => exact absurd e hl
  | some v => exact h12 f (hf f (mem_of_lookup' e))
theorem notB_ok {K : Frag} {cs : List Str} (h : notB K cs = true) {T : String} (hT : T ∈ tyL) : ∀ C ∈ cs, PySem.W.kitOne K (.ref (He.ga K C)) (.type T) = some false := fun C hC =>
  of_decide_eq_true (List.all_eq_true.mp (List.all_eq_true.mp h C hC) T hT)
theorem gblB_ok {K : Frag} {h : Heap} {mg : Str → Option Value} {x : Str} {id : String} (X : K.In h) (G : h.Ns mainGlobals mg) (c : gblB K x id = true) : mg x = some (.builtin id) := PySem.W.mg_of X G (of_decide_eq_true c)
/-! ### static methods -/
structure StM (K : Frag) (C : Addr) (m : Str) (p f : Addr) : Prop where
  rd : PySem.W.readsIn K C (.type "type") = true
  ga : PySem.W.specialIn K (.ref C) "__getattribute__" = some (some (.builtin "type.__getattribute__"))
  at_ : PySem.W.findCls K (.ref C) (.type "type") m = some (.get (.builtin "staticmethod.__get__") (.ref p) .none (.ref C))
  rc : ∃ rest, PySem.W.recIn K p "staticmethod" = some (.ref f :: rest)
theorem stmB_ok {K : Frag} {C : Addr} {m : Str} (h : stmB K C m = true) : StM K C m (He.ma K C m) (He5.wf K C "staticmethod" m) := by
  unfold stmB at h
  simp only [Bool.and_eq_true, decide_eq_true_eq] at h
  obtain ⟨h1, h2, h3⟩ := h
  obtain ⟨h4, h5⟩ := He5.wrapB_ok h1
  exact ⟨h2, h3, h4, h5⟩
section
variable {X : Cx} {W : WX}
theorem getst_ok {pins : List (Addr × Obj)} {σ : L2.St} {H : Hp} {s : Shared} {C p f : Addr} {m : Str} {pl : Sem Bool} {A : Around} {E : Value → Shared → Prop} {Q : Value × List Value → Shared → Prop} (I : Inv X pins σ H s) (S : StM X.K C m p f)
    (h : ∀ s', Inv X pins σ H s' → Q (.ref f, []) s') : wpAny (model X.prog X.w) A (getMethod (.ref C) m pl) Q E s := by
  obtain ⟨rest, hp⟩ := S.rc
  refine PySem.W.method_cls I.kIn S.ga (PySem.W.cls_bind I.kIn S.rd S.at_ (wpAny_call (PySem.W.sm_get (s := { s with toks := s.toks + 1 }) I.kIn hp ?_)))
  exact PySem.W.handed_on rfl (h _ (I.tok _))
theorem se_stat {C : Str} {mn : Str} {q g : Addr} {fd : FuncData} {ps : List Str} {j k n : Nat} {f : List D → Sto → Res D} {e : Expr} {es : List Expr} {ma : Am} {p0 apos pos : Pos} {pl : Sem Bool}
    (hm : X.mg C = some (.ref (He.ga X.K C))) (S : StM X.K (He.ga X.K C) mn q g) (hkp : PySem.W.keepIn X.K (.ref g) = true) (F : FnOk X.prog X.w X.K X.mg X.base (CXp X.prog X.w) k g fd ps (spM X.K n f)) (hr : Room j X.A) (hk : k ≤ j)
    (hb : Binds X.K fd ps []) (tk : Takes X W) (hn : ∀ ds st, f ds st ≠ .bad → ds.length = n) (ha : SA X W (e :: es) ma)
    (hg : Gl X C := by rfl) (hdb : (C == ("__debug__" : Str)) = false := by decide)
    (hst : starEach (e :: es) X.env = (false, eval e X.env) :: starEach es X.env := by rfl) (hpl : (backTo pos (starEach es X.env)).any (·.1) = false := by rfl)
    (ht : eval (.Call (.Attribute (.Name C p0) mn apos) (e :: es) [] pos) X.env = (do
      let ov ← eval (.Name C p0) X.env
      standAt apos.atName
      let (f, first) ← holding [ov] (getMethod ov mn pl)
      callWith pos f first (backTo pos (starEach (e :: es) X.env)) (backToKw pos (keywordEach [] X.env))) := by rfl) :
    SE X W (.Call (.Attribute (.Name C p0) mn apos) (e :: es) [] pos) (eCall f ma []) := by
  refine ⟨fun pins s σV H Q I q => PySem.W.methodCall_KW (pl := pl) (thn ((pe_glob (v := .ref (He.ga X.K C)) hg hm rfl hdb).run pins s σV H (fun x H1 => x = .ref (He.ga X.K C) ∧ H1 = H) I ⟨rfl, rfl⟩) fun u s1 ⟨x, H1, I1, rx, ex, eH⟩ => ?_) ht⟩
  subst ex eH
  obtain rfl : u = Value.ref (He.ga X.K C) := rx
  refine getst_ok I1 S fun s2 I2 => ?_
  obtain ⟨w, σ, rfl, ok, sl, p⟩ := q
  refine PySem.W.callWith_K (first := []) (h₀ := X.base) I.ok.mod.kin hkp (thn (ha.run pos pins s2 σV _ (fun vs H2 => spM X.K n f vs H2 Q (WE W σV)) I2 ?_) fun us s3 ⟨vs, H2, I3, r, q2⟩ => ⟨I3.kIn, ?_⟩) hst hpl
  · refine ⟨w, σ, rfl, ok, sl, PR.bind ok p fun as st vs mu H1 e1 s1 ok1 r1 p1 => ?_⟩
    rw [List.append_nil] at p1
    exact ⟨⟨mu, st, H1, w.op⟩, as, rfl, ok1, r1, hn _ _ (fun z => by rw [z] at p1; exact p1), p1⟩
  · exact run_fnS (us := us) (vs := vs) (E := WE W) F (hr.mono hk) hb (passAt tk σV) I3 r q2
/-! ### constants of the module: tuples of numbers -/
theorem se_glob {x : Str} {a : Addr} {d : D} {pos : Pos} (hm : X.mg x = some (.ref a)) (r : ∀ w, Ok X.K w → Rep X.K w (.ref a) d) (hg : Gl X x := by rfl) (hdb : (x == ("__debug__" : Str)) = false := by decide) : SE X W (.Name x pos) (eC d) :=
  se_C (v := .ref a) (pe_glob hg hm rfl hdb) r
theorem rep_ktup {K : Frag} {x : Str} {ns : List Int} (h : He.tupB K x (dvI ns) = true) (w : Wd) : Rep K w (.ref (He.ga K x)) (.tup (ns.map .int)) := by
  have z := He.tupB_ok h
  have e : (dvI ns).map (He.Dv.v K) = ns.map V.int := by
    unfold dvI
    rw [List.map_map] <;> rfl
  rw [e] at z
  refine .ktup z ?_
  clear z e h
  induction ns with
  | nil => exact .nil
  | cons i r ih => exact .cons (.int i) ih
theorem ss_bad {X : Cx} {W : WX} {s : Stmt} : SS X W s mBad := ⟨fun _ _ _ _ _ _ h => by obtain ⟨_, _, _, _, _, p⟩ := h; exact p.elim⟩
theorem pss_bad {X : Cx} {body : List Stmt} : PSs X body (fun _ _ _ => False) := ⟨fun _ _ _ _ _ _ h => h.elim⟩
end
end Sim
namespace Sim
open PySem PySem.Spec PyProof.Rows L2
theorem one_no {K : Frag} {C f : Str} {ns : List Str} (h : InF K C ns) (hf : f ∈ ns) : ∀ D ∈ [C], PySem.W.findIn K (.ref (He.ga K D)) f = some none := fun D hD => by
  rw [List.mem_singleton.mp hD]
  exact h.no f hf
/-- a static method by its name -/
structure FnSt (P : Program) (w : World) (K : Frag) (mg : Str → Option Value) (base : Heap) (C mn : Str) (k n : Nat) (f : List D → Sto → Res D) : Prop where
  ex : ∃ (p g : Addr) (fd : FuncData) (ps : List Str), StM K (He.ga K C) mn p g ∧ PySem.W.keepIn K (.ref g) = true ∧ FnOk P w K mg base (CXp P w) k g fd ps (spM K n f) ∧ Binds K fd ps []
  glo : mg C = some (.ref (He.ga K C))
  len : ∀ ds st, f ds st ≠ .bad → ds.length = n
theorem se_st {X : Cx} {W : WX} {C : Str} {mn : Str} {j k n : Nat} {f : List D → Sto → Res D} {e : Expr} {es : List Expr} {ma : Am} {p0 apos pos : Pos} {pl : Sem Bool}
    (F : FnSt X.prog X.w X.K X.mg X.base C mn k n f) (hr : Room j X.A) (hk : k ≤ j) (tk : Takes X W) (ha : SA X W (e :: es) ma)
    (hg : Gl X C := by rfl) (hdb : (C == ("__debug__" : Str)) = false := by decide)
    (hst : starEach (e :: es) X.env = (false, eval e X.env) :: starEach es X.env := by rfl) (hpl : (backTo pos (starEach es X.env)).any (·.1) = false := by rfl)
    (ht : eval (.Call (.Attribute (.Name C p0) mn apos) (e :: es) [] pos) X.env = (do
      let ov ← eval (.Name C p0) X.env
      standAt apos.atName
      let (f, first) ← holding [ov] (getMethod ov mn pl)
      callWith pos f first (backTo pos (starEach (e :: es) X.env)) (backToKw pos (keywordEach [] X.env))) := by rfl) :
    SE X W (.Call (.Attribute (.Name C p0) mn apos) (e :: es) [] pos) (eCall f ma []) := by
  obtain ⟨p, g, fd, ps, S, hkp, G, hb⟩ := F.ex
  exact se_stat F.glo S hkp G hr hk hb tk F.len ha hg hdb hst hpl ht
end Sim

set_option Elab.async false
set_option linter.all false
set_option maxRecDepth 100000
set_option maxHeartbeats 4000000
/-! raise C(..), C an exception class of the program with its own __init__ -/
namespace Sim
open PySem PySem.Spec PyProof.Rows L2
section
variable {X : Cx} {pins : List (Addr × Obj)} {σ : L2.St} {H : Hp} {s : Shared} {C fI : Addr} {k n : Nat} {fd : FuncData} {ps ks : List Str} {tp : List (Str × Fl)}
theorem run_raiseX {CX : CXT} {Q : XK} {us : List Value} {vs : List V} (T : ExG X.K C) (rz : Raises X (.ref C)) (iC : PySem.W.findIn X.K (.ref C) "__init__" = some (some (.ref fI))) (tI : PySem.W.typeIn X.K (.ref fI) = some (.type "function"))
    (F1 : FnOk X.prog X.w X.K X.mg X.base CX k fI fd ps (spI C n tp)) (hr : Room (k + 1) X.A) (hb : KBn X.K fd ps (vs.length + 1) [] (gB false) (gB false)) (hx : Passes CX X (fun _ _ _ => False))
    (I : Inv X pins σ H s) (r : Vals vs us) (hl : vs.length ≤ 1000) (hn : vs.length = n)
    (h : ∃ fs, tpV tp vs = some fs ∧ ∀ d, H d = none → Q (.ref C) (some d) (upd H d (.xd fs))) :
    wpAny (model X.prog X.w) X.A (call (.ref C) us) (L2.MkP X pins σ Q) X.xe s := by
  obtain ⟨B, newId, initId, bmB, FB, SF, q0, ov⟩ := T.base
  obtain ⟨nm, N, qn, bs, bm, hdct, sn, sub, ab, col, dd, k0, k1, k2, k3, k5, hC, hT⟩ := PySem.W.excInit_of I.kIn q0
  obtain ⟨fs, hfs, hq0⟩ := h
  obtain ⟨hp, g, dr, tk, os⟩ := s
  have hsz : hp.objs.size ≤ hp.objs.size + 1 := Nat.le_succ _
  have hn0 : H (hp.objs.size + 1) = none := I.hok.fresh hsz
  have kk : ∀ b o, hp.get? b = some o → ((hp.push (PySem.W.kdv_tup us)).push (PySem.HandSPX.excO C hp.objs.size)).get? b = some o := fun b o e => Heap.get?_push_of_some _ (Heap.get?_push_of_some _ e)
  have hget : ((hp.push (PySem.W.kdv_tup us)).push (PySem.HandSPX.excO C hp.objs.size)).get? (hp.objs.size + 1) = some (PySem.HandSPX.excO C hp.objs.size) := by heap_get
  have I2 : Inv X pins σ (upd H (hp.objs.size + 1) (exo (hp.objs.size + 1) C none)) ⟨(hp.push (PySem.W.kdv_tup us)).push (PySem.HandSPX.excO C hp.objs.size), g, dr, tk, os⟩ :=
    I.laid (t' := tk) (a := hp.objs.size + 1) (o := exo (hp.objs.size + 1) C none) (h' := (hp.push (PySem.W.kdv_tup us)).push (PySem.HandSPX.excO C hp.objs.size)) kk hsz (exo_ok hget)
  have r1 : Vals (V.ref (hp.objs.size + 1) :: vs) (Value.ref (hp.objs.size + 1) :: us) := .cons rfl r
  have r2 := hb.rel r1 (.nil : Vals [] [])
  have n1 : (Value.ref (hp.objs.size + 1) :: us).length = vs.length + 1 := by rw [List.length_cons, ← r.length]
  have hus : us.length ≤ sizeLine := by
    rw [← Paired.length r, sizeLine_eq]
    omega
  have hq : spI C n tp (gB false (V.ref (hp.objs.size + 1) :: vs) []) (upd H (hp.objs.size + 1) (exo (hp.objs.size + 1) C none)) (fun v H2 => v = .non ∧ ∃ d, H d = none ∧ d ≠ hp.objs.size + 1 ∧ H2 = upd (upd H d (exd d fs)) (hp.objs.size + 1) (exo (hp.objs.size + 1) C (some d))) (fun _ _ _ => False) := by
    refine ⟨hp.objs.size + 1, vs, fs, by simp [gB], hn, upd_same, hfs, fun d hd hne => ⟨rfl, d, by rw [upd_ne hne] at hd; exact hd, hne, ?_⟩⟩
    funext b
    by_cases h1 : b = hp.objs.size + 1
    · rw [h1, upd_same, upd_same]
    · rw [upd_ne h1, upd_ne h1]
      by_cases h2 : b = d
      · rw [h2, upd_same, upd_same]
      · rw [upd_ne h2, upd_ne h2, upd_ne h1]
  refine wpAny_call (PySem.SimX.callK FB hT hC (PySem.W.looks_findIn I.kIn iC) (fun self => PySem.W.bind_fn I.kIn self tI) hus (codeAny_mono (F1.run _ X.stack _ _ ⟨Value.ref (hp.objs.size + 1) :: us, []⟩ (gB false (Value.ref (hp.objs.size + 1) :: us) []) _ _ (fun _ _ _ => False) (hr.make C us [])
    (I2.env0.make C us []) (hb.to _ (Value.ref (hp.objs.size + 1) :: us) [] I2.kIn n1 rfl) r2 hq) fun r s' hq' => ?_))
  cases r with
  | error e => exact hx pins σ _ _ e s' I2 hq'
  | ok fl =>
    cases fl with
    | ret u =>
      obtain ⟨v, H2, os2, bare2, un2, hok2, rv, ev, d, hd, hne, e3⟩ := hq'
      subst ev
      subst e3
      obtain ⟨h2, g2, d2, t2, os'⟩ := s'
      refine ⟨rv, mk_end (d := d) (fs := fs) rz I hsz kk un2 hok2 os2 bare2 upd_same (by rw [upd_ne hne, upd_same]) hd ?_⟩
      have e : upd (del (upd (upd H d (exd d fs)) (hp.objs.size + 1) (exo (hp.objs.size + 1) C (some d))) (hp.objs.size + 1)) d (.xd fs) = upd H d (.xd fs) := by
        funext b
        by_cases h2 : b = d
        · rw [h2, upd_same, upd_same]
        · rw [upd_ne h2, upd_ne h2]
          by_cases h1 : b = hp.objs.size + 1
          · rw [h1, del_same, hn0]
          · rw [del_ne h1, upd_ne h1, upd_ne h2]
      rw [e]
      exact hq0 d hd
    | next => exact False.elim hq'
    | brk => exact False.elim hq'
    | cont => exact False.elim hq'
end
section
variable {X : Cx} {W : WX} {x : Str} {n k : Nat} {tp : List (Str × Fl)} {modes : List (Nat × List Str × Bool)} {p pos rpos : Pos} {e : Expr} {es : List Expr} {ma : Am}
def tRaiseX (C : Addr) (tp : List (Str × Fl)) (n : Nat) (tA : TA) : L2.St → Hp → XK → Prop := fun σ H Q => tA σ H fun vs H1 => vs.length = n ∧ ∃ fs, tpV tp vs = some fs ∧ ∀ d, H1 d = none → Q (.ref C) (some d) (upd H1 d (.xd fs))
theorem pmk_raiseX (M : MkX X.prog X.w X.K X.mg X.base x n tp modes) (hmd : (n, [], false) ∈ modes) (h0 : n ≤ 1000) (hr : Room (k + 2) X.A) (tk : Takes X W) {tA : TA} (ha : PA X (e :: es) tA) (hg : Gl X x) (hdb : (x == ("__debug__" : Str)) = false := by decide)
    (he : starEach (e :: es) X.env = (false, eval e X.env) :: starEach es X.env := by rfl) (hpl : (backTo pos (starEach es X.env)).any (·.1) = false := by rfl) :
    PMk X (.Call (.Name x p) (e :: es) [] pos) (tRaiseX (He.ga X.K x) tp n tA) := by
  obtain ⟨fI, fd, ps, iC, tI, F, B⟩ := M.init
  intro pins s σ H Q I h
  refine wpAny_Call_Name_kw (ld_glob I hg M.glo ?_ hdb)
  refine PySem.W.callWith_K (h₀ := X.base) I.ok.mod.kin M.T.kC (thn (ha.run pos pins s σ H _ I h) fun us s1 ⟨vs, H1, I1, r, l1, q⟩ => ⟨I1.kIn, ?_⟩) he hpl
  have b := B _ hmd
  simp only at b
  rw [← l1] at b
  exact run_raiseX M.T (raises_own (M.cls (tp.map fun t => (t.1, D.non)) (by rw [List.map_map]; rfl)).exC M.ty) iC tI F (hr.mono (by omega)) b (no_pass tk) I1 r (by rw [l1]; exact h0) l1 q
theorem pmk_raiseX0 (M : MkX X.prog X.w X.K X.mg X.base x 0 tp modes) (hmd : (0, [], false) ∈ modes) (hr : Room (k + 2) X.A) (tk : Takes X W) (hg : Gl X x) (hdb : (x == ("__debug__" : Str)) = false := by decide) :
    PMk X (.Call (.Name x p) [] [] pos) (tRaiseX (He.ga X.K x) tp 0 tNil) := by
  obtain ⟨fI, fd, ps, iC, tI, F, B⟩ := M.init
  intro pins s σ H Q I h
  refine wpAny_Call_Name_kw (ld_glob I hg M.glo ?_ hdb)
  obtain ⟨l1, q⟩ := h
  exact PySem.W.callWith_K0 I.kIn M.T.kC (run_raiseX (us := []) (vs := []) M.T (raises_own (M.cls (tp.map fun t => (t.1, D.non)) (by rw [List.map_map]; rfl)).exC M.ty) iC tI F (hr.mono (by omega)) (B _ hmd) (no_pass tk) I .nil (by simp) rfl q)
def sRaise (x : Str) (tp : List (Str × Fl)) (n : Nat) (ma : Am) : Sm := fun σ st => (ma σ st).toRS σ fun as st1 => if as.length = n then (match tpD tp as with
  | some fs => .exc ⟨x, fs⟩ σ st1
  | none => .bad) else .bad
theorem t_raiseX (hc : ∀ fs : List (Str × D), fs.map (·.1) = tp.map (·.1) → ExcC X.K x fs) {D0 : Ends} {σV : L2.St} {H : Hp} (q : TSm X.K (sRaise x tp n ma) W D0 σV H) : tRaiseX (He.ga X.K x) tp n (TAm X.K ma W) σV H fun c d H' => W c d σV H' := by
  obtain ⟨w, σ, rfl, ok, sl, p⟩ := q
  refine ⟨w, σ, rfl, ok, sl, PSr.toR ok sl p fun as st vs mu H1 e1 s1 ok1 r1 p1 => ?_⟩
  by_cases hl : as.length = n
  · rw [if_pos hl] at p1
    cases e3 : tpD tp as with
    | none => simp only [e3] at p1; exact p1.elim
    | some fs =>
      simp only [e3] at p1
      obtain ⟨fv, h1, h2, h3⟩ := tpD_rep r1 e3
      refine ⟨by rw [r1.length]; exact hl, fv, h1, fun d hd => ?_⟩
      have oA := put_ok (o := .xd fv) ok1 hd
      have sA := put_step (w := ⟨mu, st, H1, w.op⟩) (o := .xd fv) hd
      exact p1 _ _ σV mu _ sA oA ((sl.step s1 ok).step sA ok1) ⟨rfl, hc fs h3, d, fv, rfl, upd_same, put_live ok1 hd, ok1.notOp hd, h2.step sA ok1⟩
  · rw [if_neg hl] at p1
    exact p1.elim
theorem ss_raise (hcalm : X.calm = true) (M : MkX X.prog X.w X.K X.mg X.base x n tp modes) (hr : Room (k + 2) X.A) (tk : Takes X W) (ha : SA X W (e :: es) ma) (hmd : (n, [], false) ∈ modes := by simp) (h0 : n ≤ 1000 := by decide) (hg : Gl X x := by rfl) (hdb : (x == ("__debug__" : Str)) = false := by decide)
    (he : starEach (e :: es) X.env = (false, eval e X.env) :: starEach es X.env := by rfl) (hpl : (backTo pos (starEach es X.env)).any (·.1) = false := by rfl) : SS X W (.Raise (some (.Call (.Name x p) (e :: es) [] pos)) none rpos) (sRaise x tp n ma) :=
  ps_imp (ps_raise hcalm tk (pmk_raiseX (tA := TAm X.K ma W) M hmd h0 hr tk ha hg hdb he hpl)) fun D σV H q => t_raiseX M.cls q
theorem ss_raise0 (hcalm : X.calm = true) (M : MkX X.prog X.w X.K X.mg X.base x 0 tp modes) (hr : Room (k + 2) X.A) (tk : Takes X W) (hmd : (0, [], false) ∈ modes := by simp) (hg : Gl X x := by rfl) (hdb : (x == ("__debug__" : Str)) = false := by decide) : SS X W (.Raise (some (.Call (.Name x p) [] [] pos)) none rpos) (sRaise x tp 0 aNil) :=
  ps_imp (ps_raise hcalm tk (pmk_raiseX0 M hmd hr tk hg hdb)) fun D σV H q => by
    obtain ⟨w, σ, h1, ok, sl, p⟩ := t_raiseX M.cls q
    have z := PR.ret (R := Reps X.K) ok p .nil
    rw [h1] at z
    exact z
end
end Sim

set_option Elab.async false
set_option linter.all false
set_option maxRecDepth 100000
set_option maxHeartbeats 4000000
/-! try: body / except C as x: suite / ..; defs that are called in a suite -/
namespace Sim
open PySem PySem.Spec PyProof.Rows L2
/-! ### the caught exception, tracked -/
section
variable {X : Cx} {pins : List (Addr × Obj)} {σ : L2.St} {H : Hp} {s : Shared}
theorem xo_tup {a C d : Addr} {xs : List V} : xo a C d ≠ .tup xs := fun z => by
  have z' : HO.ext _ = HO.tup xs := z
  cases z'
theorem adopt {a C dx : Addr} {oe : Obj} {vs : Array Value} (I : Inv X pins σ H s) (he : s.heap.get? a = some oe) (hcl : oe.cls = .ref C) (hdi : oe.dict = some dx) (hd : oe.data = .fields vs) (na : H a = none) (nL : a ≠ X.env.locals) (nF : a ∉ X.fs)
    (n0 : a ∉ X.ex → X.s_0.heap.get? a = none) (nP : ∀ p ∈ X.pn ++ pins, p.1 ≠ a) : Inv (X.suite a (X.pn ++ pins)) [] σ (upd H a (xo a C dx)) s := by
  have ne : ∀ {b : Addr} {o : HO}, H b = some o → b ≠ a := fun {b o} e z => by rw [z, na] at e; cases e
  refine ⟨I.ok.suite _ _, I.os, I.bare, ⟨I.base.keep, I.base.slot, fun b o e n hx => ?_, I.base.there, fun b xs e => ?_, fun b o v e => ?_, fun b ps e => ?_⟩, I.loc, I.cell, ?_, fun x c e => ?_, fun p hp => ?_, fun b u e => ?_, I.len⟩
  · have q : b ≠ a := fun z => by
      rw [z] at e hx
      rw [n0 hx] at e; cases e
    rw [upd_ne q]
    exact I.base.free b o e n hx
  · have z := I.base.tups b xs e
    rw [upd_ne (ne z)]; exact z
  · have z := I.base.frzs b o v e
    rw [upd_ne (ne z)]; exact z
  · obtain ⟨more, z⟩ := I.base.tbls b ps e
    exact ⟨more, by rw [upd_ne (ne z)]; exact z⟩
  · show upd H a (xo a C dx) X.env.locals = none
    rw [upd_ne (Ne.symm nL)]
    exact I.free
  · have z := I.freeC x c e
    obtain ⟨v, o, ho, hc⟩ := I.cell x c e
    have q : c ≠ a := fun q => by
      rw [q, he] at ho
      cases ho
      rw [hd] at hc; cases hc
    rw [upd_ne q]
    exact z
  · rw [List.append_nil] at hp
    obtain ⟨e1, e2, e3, e4, e5⟩ := I.pin p hp
    exact ⟨e1, by rw [upd_ne (nP p hp)]; exact e2, e3, e4, e5⟩
  · by_cases hb : b = a
    · subst hb
      rw [upd_same] at e
      cases e
      exact ⟨⟨_, _, he, hcl, hdi, hd⟩, ⟨_, he⟩, fun _ _ ⟨o, vs, e1, e2⟩ k => ⟨o, vs, k _ e1, e2⟩⟩
    · rw [upd_ne hb] at e
      exact (I.hok b u e).stay (fun _ _ _ z => z) (fun c hc => by rw [upd_ne (ne hc)]; exact hc) fun c xs hc => by rw [upd_ne (ne hc)]; exact hc
theorem unadopt {a : Addr} {pn' : List (Addr × Obj)} (I : Inv (X.suite a (X.pn ++ pins)) pn' σ H s) (ok : X.Ok) : Inv X pins σ H s :=
  ⟨ok, I.os, I.bare, I.base, I.loc, I.cell, I.free, I.freeC, fun p hp => I.pin p (List.mem_append_left _ hp), I.hok, I.len⟩
end
/-! ### the clauses -/
def dW (D : Ends) (i : Nat) : Ends := { nx := fun σ' H' => D.nx (σ'.set i none) H', rt := D.rt, bk := fun σ' H' => D.bk (σ'.set i none) H', ct := fun σ' H' => D.ct (σ'.set i none) H' }
def wCl (K : Frag) (Wout : WX) (D : Ends) : List (Value × Nat × TS) → WX
  | [] => Wout
  | (c, i, ts) :: r => fun cls d σ H => ∃ b, PySem.W.exmOne K cls c = some b ∧ (b = true → ∃ C dx, cls = .ref C ∧ d = some dx ∧ ∀ a, H a = none → ts (dW D i) (σ.set i (some (.ref a))) (upd H a (xo a C dx))) ∧ (b = false → wCl K Wout D r cls d σ H)
inductive HdsA (X : Cx) : List ExceptHandler → List (Value × Nat × TS) → Prop
  | nil : HdsA X [] []
  | cons {x n : Str} {c : Value} {i : Nat} {ts : TS} {b₀ : Stmt} {suite : List Stmt} {np pos' : Pos} {hds : List ExceptHandler} {l : List (Value × Nat × TS)} (hc : Names X x c) (hi : X.N[i]? = some n) (hln : X.env.kindOf n = some .local)
      (hsu : ∀ (a : Addr) (pn : List (Addr × Obj)), PSs (X.suite a pn) (b₀ :: suite) ts) (r : HdsA X hds l) :
      HdsA X (.ExceptHandler (some (.Name x np)) (some n) (b₀ :: suite) pos' :: hds) ((c, i, ts) :: l)
section
variable {X : Cx} {body : List Stmt} {h₀ : ExceptHandler} {hds : List ExceptHandler} {l : List (Value × Nat × TS)} {pos : Pos} {tb : WX → TS} {Wout : WX}
theorem ps_try_cl (hs : X.stack = X.env :: X.outer) (hf : X.env.frame = some X.env.locals) (hN : X.N.Nodup) (tk : Takes X Wout)
    (hb : ∀ (W : WX) (pn : List (Addr × Obj)) (xe : Value → Shared → Prop), Takes (X.tr pn xe) W → PassesOwn (model X.prog X.w) X.A X.env xe → PSs (X.tr pn xe) body (tb W))
    (hh : HdsA X (h₀ :: hds) l) : PS X (.Try body (h₀ :: hds) [] [] pos) (fun D σ H => tb (wCl X.K Wout D l) D σ H) := by
  refine ⟨fun pins s σ H D I h => ?_⟩
  have ok := I.ok
  have hfr : X.A.frames = some (X.env :: X.outer) := by rw [ok.frames, hs]
  refine wpAny_Try_except ?_
  refine wpAny_mono ((hb (wCl X.K Wout D l) (X.pn ++ pins) (fun e s₁ => wpAny (model X.prog X.w) X.A (noteFrame e X.env) (fun _ s₂ => wpAny (model X.prog X.w) X.A (setFlight e none) (fun _ s₃ =>
    wpAny (model X.prog X.w) X.A (handleBy e X.env (h₀ :: hds)) (L2.SP X pins D) X.xe s₃) X.xe s₂) X.xe s₁) (fun u s' xx => ?_) PassesOwn.looking).run [] s σ H D (I.toTry _) h) (fun f s1 hsp => ?_) (fun e s1 he => he)
  · obtain ⟨a, B, sI, pins', σ', H', cls, d, rfl, J', nb, up, sky, na, os, ag, w⟩ := xx
    have J : Inv X pins σ' H' sI := J'.ofTry ok
    have sky' : Sky B (X.env :: X.outer) a (Zc cls d) X.env.locals s'.heap := by rw [← hs]; exact sky
    show wpAny (model X.prog X.w) X.A (noteFrame (.ref a) X.env) _ _ _
    refine Sky.land Zc.steady hfr hf sky' fun h3 fl3 up3 => ?_
    have J3 : Inv X pins σ' H' { s' with heap := h3 } := J.landed nb fl3.1 (up.trans up3) os ag
    obtain ⟨oe3, vs3, he3, hz3, hd3⟩ := fl3.there
    have notFr : ∀ {h : Heap} {o : Obj} {vs : Array Value}, h.FunFrames B (X.env :: X.outer) → h.get? a = some o → o.data = .fields vs → a ∉ frs (X.env :: X.outer) := fun {h o vs} ff e dd hm => by
      obtain ⟨_, o', e', hnf⟩ := ff.mem hm
      rw [e] at e'; cases e'
      exact hnf _ dd
    have nfr := notFr fl3.2.2.1 he3 hd3
    have nL : a ≠ X.env.locals := fun z => nfr (List.mem_filterMap.mpr ⟨X.env, List.mem_cons_self, by rw [hf, z]⟩)
    have nF : a ∉ X.fs := fun hm => by
      obtain ⟨e, he, q⟩ := List.mem_filterMap.mp hm
      exact nfr (List.mem_filterMap.mpr ⟨e, List.mem_cons_of_mem _ he, q⟩)
    have nI : sI.heap.get? a = none := by
      cases q : sI.heap.get? a with
      | none => rfl
      | some o =>
        have z := nb a o q (by rw [hs]; exact nfr)
        rw [fl3.2.1] at z
        cases z
    have n0 : a ∉ X.ex → X.s_0.heap.get? a = none := fun hx => by
      cases q : X.s_0.heap.get? a with
      | none => rfl
      | some o =>
        obtain ⟨o', z⟩ := J.base.there a o q hx
        rw [nI] at z; cases z
    have nP : ∀ p ∈ X.pn ++ pins, p.1 ≠ a := fun p hp z => by
      have q := (J.pin p hp).1
      rw [z, nI] at q; cases q
    have S3 := J3.suite he3 hd3 na nL nF
    have go : ∀ {hds' : List ExceptHandler} {l' : List (Value × Nat × TS)}, HdsA X hds' l' → wCl X.K Wout D l' cls d σ' H' →
        wpAny (model X.prog X.w) X.A (handleBy (.ref a) X.env hds') (L2.SP X pins D) X.xe { s' with heap := h3 } := by
      intro hds' l' hk
      induction hk with
      | nil =>
        intro w
        refine wpAny_handleBy_nil ?_
        obtain ⟨k1, k2, k3, oe, vs, T, oT, ts', he, hz, hd, h1, hr⟩ := id fl3
        unfold PySem.passOn
        refine wpAny_bind (wpAny_field he hd h1 ?_)
        rw [if_neg (show ¬ ((Value.ref T == Value.none) = true) from by simp)]
        have fin : wpAny (model X.prog X.w) X.A (setFlight (.ref a) X.env.frame) (fun _ s4 => wpAny (model X.prog X.w) X.A (throw (.ref a) : Sem Flow) (L2.SP X pins D) X.xe s4) X.xe { s' with heap := h3 } := by
          rw [hf]
          refine HandSPX.setFlight_upZ fl3 fun h4 hh4 up4 => wpAny_throw (tk _ _ ?_)
          exact ⟨a, B, sI, pins, σ', H', cls, d, rfl, J, nb, (up.trans up3).trans up4, .inr (.inr (by rw [hs]; exact hh4)), na, os, ag, w⟩
        first
          | exact wpAny_bind (wpAny_pure (wpAny_bind fin))
          | exact wpAny_bind fin
      | @cons x n c i ts b₀ suite np pos' hds2 l2 hc hi hln hsu r ih =>
        intro w
        obtain ⟨b, hb1, hyes, hno⟩ := w
        refine wpAny_handleBy_cons (codeAny_handlers_test ?_) (by intro q; cases q)
        have LT : PySem.W.Looks (model X.prog X.w) h3 (typeOf (.ref a)) cls := fun A Q E s k q => wpAny_typeOf_ref (k _ _ he3) (by rw [hz3.1]; exact q)
        have LM := PySem.W.exm_one (M := model X.prog X.w) (J3.kIn) LT hb1
        have test : ∀ {Q : Value → Shared → Prop} {E : Value → Shared → Prop}, Q c { s' with heap := h3 } → wpAny (model X.prog X.w) (X.A.mark (some (.ref a))) (eval (.Name x np) X.env) Q E { s' with heap := h3 } := fun {Q E} q => by
          obtain ⟨hg, hdbg, hm | ⟨hm, hv, hnn⟩⟩ := hc
          · exact ld_glob (X := X.suite a ((a, oe3) :: (X.pn ++ pins))) S3 hg hm q hdbg
          · exact ld_blt (X := X.suite a ((a, oe3) :: (X.pn ++ pins))) S3 hg hm hv q hnn hdbg
        refine test (LM.here ?_)
        cases b with
        | true =>
          obtain ⟨C, dx, ec, ed, hy2⟩ := hyes rfl
          subst ec ed
          refine codeAny_handlers_suite_as ?_
          refine HandSPX.lands_againZ fl3 fun h4 fl4 up4 => ?_
          have J4 : Inv X pins σ' H' { s' with heap := h4 } := J.landed nb fl4.1 ((up.trans up3).trans up4) os ag
          obtain ⟨oe4, vs4, he4, hz4, hd4⟩ := fl4.there
          have S4 := adopt (C := C) (dx := dx) J4 he4 hz4.1 hz4.2 hd4 na nL nF n0 nP
          have hloc : Loc X.env.scope n := .inl hln
          refine store_ok (X := X.suite a (X.pn ++ pins)) (v := .ref a) S4 hN hi hloc rfl (fun s5 S5 => ?_) (.inr hln)
          refine wpAny_mono ((hsu a (X.pn ++ pins)).run [] s5 _ _ (dW D i) S5 (hy2 a na)) (fun f s6 hsp => ?_) (fun _ _ z => False.elim z)
          have end_ : ∀ {σ6 : L2.St} {H6 : Hp} {Q : Shared → Prop}, Inv (X.suite a (X.pn ++ pins)) [] σ6 H6 s6 → (∀ s7, Inv X pins (σ6.set i none) H6 s7 → Q s7) →
              wpAny (model X.prog X.w) X.A (do bindName X.env n .none; unbindBehindTheSuite X.env n pos') (fun _ s7 => Q s7) X.xe s6 := fun {σ6 H6 Q} S6 hq => gone_ok (unadopt S6 ok) hN hi hln hq
          cases f with
          | next =>
            obtain ⟨σ6, H6, S6, q6⟩ := hsp
            exact end_ S6 fun s7 J7 => ⟨_, _, J7, q6⟩
          | brk =>
            obtain ⟨σ6, H6, S6, q6⟩ := hsp
            exact end_ S6 fun s7 J7 => ⟨_, _, J7, q6⟩
          | cont =>
            obtain ⟨σ6, H6, S6, q6⟩ := hsp
            exact end_ S6 fun s7 J7 => ⟨_, _, J7, q6⟩
          | ret u =>
            obtain ⟨v6, σ6, H6, S6, r6, q6⟩ := hsp
            exact end_ S6 fun s7 J7 => ⟨_, _, _, J7, r6, q6⟩
        | false =>
          show wpAny _ X.A (handleBy (.ref a) X.env hds2) _ _ _
          exact ih (hno rfl)
    exact go hh w
  · cases f with
    | next =>
      obtain ⟨σ', H', J', q⟩ := hsp
      exact wpAny_execs_nil ⟨σ', H', J'.ofTry ok, q⟩
    | brk =>
      obtain ⟨σ', H', J', q⟩ := hsp
      exact ⟨σ', H', J'.ofTry ok, q⟩
    | cont =>
      obtain ⟨σ', H', J', q⟩ := hsp
      exact ⟨σ', H', J'.ofTry ok, q⟩
    | ret u =>
      obtain ⟨v, σ', H', J', r, q⟩ := hsp
      exact ⟨v, σ', H', J'.ofTry ok, r, q⟩
end
/-! ### the mirror -/
structure Cl where
  c : Str
  i : Nat
  m : Sm
/-- leafs: the classes that may come; an: their own classes -/
def hdM (an : Str → List Str) : List Cl → Exn → Sl → Sto → RS
  | [], x, σ, st => .exc x σ st
  | k :: r, x, σ, st => if k.c ∈ an x.cls then (match k.m (σ.set k.i (some (.ins x.cls x.fs))) st with
    | .nx σ' st' => .nx (σ'.set k.i none) st'
    | .rt d st' => .rt d st'
    | .bk σ' st' => .bk (σ'.set k.i none) st'
    | .ct σ' st' => .ct (σ'.set k.i none) st'
    | .exc _ _ _ => .bad
    | .bad => .bad) else hdM an r x σ st
def sTry (an : Str → List Str) (leafs : List Str) (cl : List Cl) (mb : Sm) : Sm := fun σ st => match mb σ st with
  | .exc x σ' st' => if x.cls ∈ leafs then hdM an cl x σ' st' else .bad
  | r => r
def Cl.raw (K : Frag) (k : Cl) : Value × Nat × TS := (.ref (He.ga K k.c), k.i, TSm K k.m W0)
inductive HdsS (X : Cx) : List ExceptHandler → List Cl → Prop
  | nil : HdsS X [] []
  | cons {x n : Str} {i : Nat} {m : Sm} {b₀ : Stmt} {suite : List Stmt} {np pos' : Pos} {hds : List ExceptHandler} {cl : List Cl} (hc : Names X x (.ref (He.ga X.K x))) (hi : X.N[i]? = some n) (hln : X.env.kindOf n = some .local)
      (hsu : ∀ (a : Addr) (pn : List (Addr × Obj)), SSs (X.suite a pn) W0 (b₀ :: suite) m) (r : HdsS X hds cl) :
      HdsS X (.ExceptHandler (some (.Name x np)) (some n) (b₀ :: suite) pos' :: hds) (⟨x, i, m⟩ :: cl)
theorem HdsS.raw {X : Cx} {hds : List ExceptHandler} {cl : List Cl} (h : HdsS X hds cl) : HdsA X hds (cl.map (Cl.raw X.K)) := by
  induction h with
  | nil => exact .nil
  | cons hc hi hln hsu r ih => exact .cons hc hi hln hsu ih
theorem hd_reads {K : Frag} {an : Str → List Str} {D : Ends} {W : WX} {x : Exn} {c : Value} {dd : Option Addr} {σ : Sl} {σV : L2.St} : ∀ {cl : List Cl} {w : Wd}, (∀ k ∈ cl, PySem.W.exmOne K (.ref (He.ga K x.cls)) (.ref (He.ga K k.c)) = some (decide (k.c ∈ an x.cls))) → Ok K w → Slots K w σ σV → RepX K w x c dd →
    PSr K w (hdM an cl x σ w.st) D W → wCl K W D (cl.map (Cl.raw K)) c dd σV w.H
  | [], w, _, ok, sl, rx, p => p c dd σV w.mu w.H (.refl _) ok sl rx
  | k :: r, w, he, ok, sl, rx, p => by
    obtain ⟨rfl, hc, d, fv, rfl, h3, h4, h6, h5⟩ := id rx
    refine ⟨_, he k List.mem_cons_self, fun hb => ?_, fun hb => ?_⟩
    · have hb := of_decide_eq_true hb
      unfold hdM at p
      rw [if_pos hb] at p
      refine ⟨_, _, rfl, rfl, fun a ha => ?_⟩
      have o2 := put_ok (o := xo a (He.ga K x.cls) d) ok ha
      have s2 := put_step (w := w) (o := xo a (He.ga K x.cls) d) ha
      have hda : d ≠ a := fun z => by rw [z, ha] at h3; cases h3
      have rep : Rep K (w.put a (xo a (He.ga K x.cls) d)) (.ref a) (.ins x.cls x.fs) := .exo (dx := d) upd_same (by show upd w.H a _ d = _; rw [upd_ne hda]; exact h3) (put_live ok ha) (s2.live ok (not_none h3) h4) (ok.notOp ha) h6 (h5.step s2 ok) hc
      refine ⟨w.put a (xo a (He.ga K x.cls) d), _, rfl, o2, (sl.step s2 ok).set rep k.i, ?_⟩
      show PSr K _ (k.m (σ.set k.i (some (.ins x.cls x.fs))) w.st) _ _
      cases e : k.m (σ.set k.i (some (.ins x.cls x.fs))) w.st with
      | nx σ' st' =>
        rw [e] at p
        intro σV' mu H s o q
        exact p _ mu H (s2.trans s ok) o (q.del k.i none)
      | rt d' st' =>
        rw [e] at p
        intro v mu H s o q
        exact p v mu H (s2.trans s ok) o q
      | bk σ' st' =>
        rw [e] at p
        intro σV' mu H s o q
        exact p _ mu H (s2.trans s ok) o (q.del k.i none)
      | ct σ' st' =>
        rw [e] at p
        intro σV' mu H s o q
        exact p _ mu H (s2.trans s ok) o (q.del k.i none)
      | exc x' σ' st' => rw [e] at p; exact p.elim
      | bad => rw [e] at p; exact p.elim
    · have hb := of_decide_eq_false hb
      unfold hdM at p
      rw [if_neg hb] at p
      exact hd_reads (fun k' hk => he k' (List.mem_cons_of_mem _ hk)) ok sl rx p
section
variable {X : Cx} {W : WX} {body : List Stmt} {h₀ : ExceptHandler} {hds : List ExceptHandler} {pos : Pos} {mb : Sm} {cl : List Cl} {an : Str → List Str} {leafs : List Str}
theorem ss_try (hN : X.N.Nodup) (tk : Takes X W)
    (hb : ∀ (W' : WX) (pn : List (Addr × Obj)) (xe : Value → Shared → Prop), Takes (X.tr pn xe) W' → PassesOwn (model X.prog X.w) X.A X.env xe → SSs (X.tr pn xe) W' body mb)
    (hh : HdsS X (h₀ :: hds) cl) (hex : ∀ C ∈ leafs, ∀ k ∈ cl, PySem.W.exmOne X.K (.ref (He.ga X.K C)) (.ref (He.ga X.K k.c)) = some (decide (k.c ∈ an C)))
    (hs : X.stack = X.env :: X.outer := by rfl) (hf : X.env.frame = some X.env.locals := by rfl) : SS X W (.Try body (h₀ :: hds) [] [] pos) (sTry an leafs cl mb) :=
  ps_imp (ps_try_cl (tb := fun W' => TSm X.K mb W') hs hf hN tk hb hh.raw) fun D σV H q => by
    obtain ⟨w, σ, rfl, ok, sl, p⟩ := q
    refine ⟨w, σ, rfl, ok, sl, ?_⟩
    unfold sTry at p
    cases e : mb σ w.st with
    | nx σ' st' => rw [e] at p; exact p
    | rt d st' => rw [e] at p; exact p
    | bk σ' st' => rw [e] at p; exact p
    | ct σ' st' => rw [e] at p; exact p
    | bad => rw [e] at p; exact p
    | exc x σ' st' =>
      rw [e] at p
      simp only at p
      by_cases hx : x.cls ∈ leafs
      · rw [if_pos hx] at p
        intro c dd σV' mu H s o q rx
        have p2 := PSr.step s ok p
        exact hd_reads (w := ⟨mu, st', H, w.op⟩) (hex _ hx) o q rx p2
      · rw [if_neg hx] at p; exact p.elim
end
/-! ### a def that is called in a suite, and lets no exception out -/
section
variable {P : Program} {w : World} {K : Frag} {mg : Str → Option Value} {base : Heap}
abbrev E00 : XK := fun _ _ _ => False
abbrev cxF (P : Program) (w : World) (K : Frag) (mg : Str → Option Value) (base : Heap) (N : List Str) (qual : Str) (scope : Scope) (f : Addr) (cdv : Value) (A : Around) (outer : List Env) (s : Shared) (H : Hp) : Cx :=
  { cxOf (CXp P w) P w K mg base N qual scope f cdv A outer s H E00 with calm := false, xe := fun _ _ => False }
structure FnHot (P : Program) (w : World) (K : Frag) (mg : Str → Option Value) (base : Heap) (k : Nat) (f : Addr) (fd : FuncData) (ps : List Str) (sp : Sp) : Prop where
  len : ∀ vs H Q E, sp vs H Q E → vs.length = ps.length
  run : ∀ (A : Around) (outer : List Env) (s : Shared) (H : Hp) (args : Args) (us : List Value) (vs : List V) (Q : VK), L2H.RoomH k A → Env0 P w K mg base A outer s H → BindsTo s fd args (ps.zip us) → Vals vs us → sp vs H Q E00 →
    codeAny (model P w) A (.call (.ref f) args) (CR C8.CX0 outer P w H s Q C8.E0) s
theorem inv_startF {N ps : List Str} {qual : Str} {scope : Scope} {f : Addr} {cd : Value} {A : Around} {outer : List Env} {s s1 : Shared} {H : Hp} {us : List Value} {vs : List V}
    (S : FnScope N ps scope) (e0 : Env0 P w K mg base A outer s H) (hl : vs.length = ps.length) (r : Vals vs us)
    (x : InCallC s s.heap.objs.size (bindL (envOfC qual scope s.heap.objs.size f cd).kindOf (ps.zip us) fun _ => none) (cellsFrom (s.heap.objs.size + 1) scope.names []) (bindC (envOfC qual scope s.heap.objs.size f cd).kindOf (ps.zip us) fun _ => none) s1) :
    Inv (cxF P w K mg base N qual scope f cd A outer s H) [] (L2.start N vs) H s1 := by
  have hpl : ps.length ≤ N.length := by have := congrArg List.length S.pre; rw [List.length_take] at this; omega
  obtain ⟨h1, tk, rfl, hk⟩ := x.done
  have noA : ∀ b : Addr, b ∉ (cxF P w K mg base N qual scope f cd A outer s H).ex := fun b z => absurd (show b ∈ ([] : List Addr) from z) (by simp)
  refine ⟨⟨e0.mod, S.kind, rfl, rfl, Nat.le_refl _, fun y z c h1 h2 => ?_, fun y hy => ?_, fun y c _ h => ?_, (fun z => Bool.noConfusion (show false = true from z)), Around.frames_deeper e0.frames, .inr ⟨rfl, rfl⟩, fun b z => absurd z (noA b), e0.bs, e0.bsz, fun b _ _ => noA b, fun b z => absurd z (noA b), e0.funs, e0.frf⟩,
    rfl, e0.bare, Un.kept hk, ⟨_, x.toInCall.ns, fun i y v h1 h2 h3 => ?_⟩, fun y c h => ⟨_, x.cell y c h⟩, e0.hok.fresh (Nat.le_refl _), fun y c h => ?_, fun q hq => absurd (show q ∈ ([] : List (Addr × Obj)) ++ [] from hq) (by simp), e0.hok.kept hk, ?_⟩
  · exact name_of_addr x.apart (PySem.mem_of_lookup h1) (PySem.mem_of_lookup h2)
  · have hy : scope.names.lookup y = some .cell ∨ scope.names.lookup y = some .free := hy
    rcases hy with hy | hy
    · exact cell_has hy
    · exact absurd rfl (S.nofree _ (PySem.mem_of_lookup hy))
  · exact Nat.le_of_lt (x.above y c (PySem.mem_of_lookup h))
  · have hi : i < vs.length := by
      unfold L2.start at h2
      by_cases hi : i < vs.length
      · exact hi
      · rw [List.getElem?_append_right (by simpa using hi)] at h2
        rw [List.getElem?_replicate] at h2
        split at h2 <;> cases h2
    have ha : vs[i]? = some v := by
      unfold L2.start at h2
      rw [List.getElem?_append_left (by simpa using hi), List.getElem?_map] at h2
      cases e : vs[i]? with
      | none => rw [e] at h2; cases h2
      | some a => rw [e] at h2; cases h2; rfl
    obtain ⟨u, hu, rv⟩ := r.get ha
    have hp : ps[i]? = some y := by
      rw [← S.pre, List.getElem?_take_of_lt (by omega)]; exact h1
    have ndP : ps.Nodup := by rw [← S.pre]; exact S.nd.sublist (List.take_sublist _ _)
    refine ⟨u, rv, ?_⟩
    rcases S.par y (List.mem_of_getElem? hp) with k | k
    · exact .inl ⟨k, bindL_get ndP hp hu k⟩
    · obtain ⟨c, e⟩ := cell_has (n := s.heap.objs.size + 1) k
      refine .inr ⟨.inl k, c, e, ?_⟩
      have q := x.cell y c e
      rw [bindC_get ndP hp hu (by show scope.names.lookup y ≠ _; rw [k]; decide)] at q
      exact q
  · exact e0.hok.fresh (Nat.le_of_lt (x.above y c (PySem.mem_of_lookup h)))
  · unfold L2.start
    show _ = N.length
    rw [List.length_append, List.length_map, List.length_replicate]
    omega
theorem fn_simF {x qual : Str} {params : Arguments} {body : List Stmt} {scope : Scope} {dvs : List V} {kws : List (Str × V)} {f : Addr} {fd : FuncData} {N ps : List Str} {k : Nat} {m : Sm}
    (F : FunD K x qual params body scope dvs kws f fd) (S : FnScope N ps scope)
    (hb : ∀ (cdv : Value) (A : Around) (outer : List Env) (s : Shared) (H : Hp), L2H.RoomH k (A.deeper (envOfC qual scope s.heap.objs.size f cdv)) → SSs (cxF P w K mg base N qual scope f cdv A outer s H) (wOf E00) body m) :
    FnHot P w K mg base (k + 1) f fd ps (spM K ps.length (runDef N.length m)) := by
  obtain ⟨oc, od, dV, kV, doc, pm, an, cdv, ct, osl, rfl, lk, hcd, _, _⟩ := F.ex
  refine ⟨fun vs H Q E h => h.len, fun A outer s H args us vs Q hr e0 hbd r hsp => ?_⟩
  have hl := hsp.len
  have KX : K.In s.heap := e0.mod.kin.keeps fun b o e => (e0.bs b o e).1
  have lim : s.heap.NoLimit := e0.mod.nolimit.keeps fun b o e => (e0.bs b o e).1
  have hkind : ∀ y ∈ ps.zip us, scope.names.lookup y.1 = some .local ∨ (scope.names.lookup y.1 = some .cell ∧ ((cellsFrom (s.heap.objs.size + 1) scope.names []).lookup y.1).isSome = true) := fun ⟨n, v⟩ hy => by
    rcases S.par n (List.of_mem_zip hy).1 with q | q
    · exact .inl q
    · exact .inr ⟨q, PySem.W.cellsFrom_some _ _ _ (.inl q)⟩
  refine codeAny_call_function hr.depth (KX _ _ lk) rfl S.co S.gen rfl (PySem.W.codeRec_of KX hcd) (hbd _ _ _ _ ?_)
  refine wpAny_newFunctionEnv_cells S.kind hkind fun env he s1 x => ?_
  subst he
  refine ⟨lim.keeps x.toInCall.keep, codeAny_func ?_⟩
  have I : Inv (cxF P w K mg base N qual scope f cdv A outer s H) [] (L2.start N vs) H s1 := inv_startF S e0 hl r x
  refine wpAny_mono ((hb cdv A outer s H (hr.deeper _)).run [] s1 (L2.start N vs) H { nx := fun _ H' => Q .non H', rt := Q } I (body_reads hsp)) (fun fl s' hs => ?_) fun e s' hs => hs.elim
  have fin : ∀ {σ' : L2.St} {H' : Hp} {v : V} {u : Value}, Inv (cxF P w K mg base N qual scope f cdv A outer s H) [] σ' H' s' → L2.RelV v u → Q v H' → CE outer P w H s Q u s' :=
    fun {σ' H' v u} J rv q => ⟨v, H', J.os, J.bare, J.base, J.hok, rv, q⟩
  cases fl with
  | ret u =>
    obtain ⟨v, σ', H', J, rv, q⟩ := hs
    exact fin J rv q
  | next =>
    obtain ⟨σ', H', J, q⟩ := hs
    exact fin (v := V.non) (u := Value.none) J rfl q
  | brk =>
    obtain ⟨_, _, _, q⟩ := hs
    exact False.elim q
  | cont =>
    obtain ⟨_, _, _, q⟩ := hs
    exact False.elim q
/-- such a def by its name -/
structure FnH (P : Program) (w : World) (K : Frag) (mg : Str → Option Value) (base : Heap) (x : Str) (k n : Nat) (m : List D → Sto → Res D) : Prop where
  ex : ∃ (fd : FuncData) (ps : List Str), FnHot P w K mg base k (He.ga K x) fd ps (spM K n m) ∧ Binds K fd ps []
  glo : mg x = some (.ref (He.ga K x))
  kp : PySem.W.keepIn K (.ref (He.ga K x)) = true
  len : ∀ ds st, m ds st ≠ .bad → ds.length = n
theorem fnH_name {x qual : Str} {params : Arguments} {body : List Stmt} {scope : Scope} {fd : FuncData} {N ps : List Str} {k : Nat} {m : Sm}
    (F : FunD K x qual params body scope [] [] (He.ga K x) fd) (S : FnScope N ps scope) (hg : mg x = some (.ref (He.ga K x))) (b : Binds K fd ps [])
    (hb : ∀ (cdv : Value) (A : Around) (outer : List Env) (s : Shared) (H : Hp), L2H.RoomH k (A.deeper (envOfC qual scope s.heap.objs.size (He.ga K x) cdv)) → SSs (cxF P w K mg base N qual scope (He.ga K x) cdv A outer s H) (wOf E00) body m) :
    FnH P w K mg base x (k + 1) ps.length (chk ps.length (runDef N.length m)) :=
  ⟨⟨fd, ps, by rw [runDef_chk]; exact fn_simF F S hb, b⟩, hg, F.kp, chk_len⟩
end
section
variable {X : Cx} {W : WX} {j k n : Nat} {x : Str} {p pos : Pos} {e : Expr} {es : List Expr} {ma : Am} {m : List D → Sto → Res D}
theorem PR.noE {K : Frag} {w : Wd} {r : Res D} {Q : VK} {E : XK} (h : PR K (Rep K) w r Q E) (hn : ∀ x st, r ≠ .exc x st) : PR K (Rep K) w r Q E00 := by
  cases r with
  | ok d st => exact h
  | exc x st => exact absurd rfl (hn x st)
  | bad => exact h
def noX (r : Res D) : Res D := match r with
  | .exc _ _ => .bad
  | r => r
def eCallH (m : List D → Sto → Res D) (a : Am) : Em := fun σ st => (a σ st).bind fun as st1 => noX (m as st1)
theorem se_fnH (F : FnH X.prog X.w X.K X.mg X.base x k n m) (hr : L2H.RoomH j X.A) (hk : k ≤ j) (ha : SA X W (e :: es) ma)
    (hg : Gl X x := by rfl) (hdb : (x == ("__debug__" : Str)) = false := by decide) (he : starEach (e :: es) X.env = (false, eval e X.env) :: starEach es X.env := by rfl) (hpl : (backTo pos (starEach es X.env)).any (·.1) = false := by rfl) :
    SE X W (.Call (.Name x p) (e :: es) [] pos) (eCallH m ma) := by
  obtain ⟨fd, ps, G, hb⟩ := F.ex
  refine ⟨fun pins s σV H Q I q => wpAny_Call_Name_kw (ld_glob I hg F.glo ?_ hdb)⟩
  obtain ⟨w, σ, rfl, ok, sl, pr⟩ := q
  refine PySem.W.callWith_K (h₀ := X.base) I.ok.mod.kin F.kp (thn (ha.run pos pins s σV _ (fun vs H2 => spM X.K n m vs H2 Q E00) I ?_) fun us s1 ⟨vs, H1, I1, r, q1⟩ => ⟨I1.kIn, ?_⟩) he hpl
  · refine ⟨w, σ, rfl, ok, sl, PR.bind ok pr fun as st vs mu H1 e1 s1 ok1 r1 p1 => ?_⟩
    refine ⟨⟨mu, st, H1, w.op⟩, as, rfl, ok1, r1, F.len _ _ (fun z => by rw [z] at p1; exact p1), ?_⟩
    show PR _ _ _ (m as st) _ _
    cases z : m as st with
    | ok d st2 => rw [z] at p1; exact p1
    | exc x st2 => rw [z] at p1; exact p1.elim
    | bad => rw [z] at p1; exact p1.elim
  · have hl : us.length = ps.length := by rw [← r.length]; exact G.len _ _ _ _ q1
    have b := hb s1 us I1.kIn (by rw [List.append_nil]; exact hl)
    rw [List.append_nil] at b
    refine wpAny_call (codeAny_mono (G.run X.A X.stack s1 H1 ⟨us, []⟩ us vs Q ⟨by have := hr.dp; omega, by have := hr.un; omega⟩ I1.env0 b r q1) ?_)
    rintro (er | fl) s' hq
    · exact hq.elim
    · cases fl <;> first | exact I1.after hq | exact False.elim hq
end
end Sim

set_option Elab.async false
set_option linter.all false
set_option maxRecDepth 100000
set_option maxHeartbeats 4000000
/-! lambdas without parameters, or with one that has a number as its default: handed to a def that calls them -/
namespace Sim
open PySem PySem.Spec PyProof.Rows L2
open LamX (CodeO TabS Tabs TabB ExtN lamEnv lamCx codeO_ne among_app inv_table)
abbrev lamN : Str := "<lambda>"
abbrev klaD (qual : Str) (params : Arguments) (body : Expr) (scope : Scope) (cl : List (Str × Addr)) (pm cdv ct dV : Value) : FuncData := { PySem.W.kla_fn lamN qual params body scope cl pm cdv ct with defaults := dV }
abbrev klaO (qual : Str) (params : Arguments) (body : Expr) (scope : Scope) (cl : List (Str × Addr)) (pm : Value) (c' : Addr) (ct dV : Value) : Obj := { cls := .type "function", data := .func (klaD qual params body scope cl pm (.ref c') ct dV) }
section
variable {M : Model} {A : Around} {E : Value → Shared → Prop} {s : Shared} {qual : Str} {params : Arguments} {body : Expr} {scope : Scope} {env : Env} {c P : Addr} {ps : Array Value} {pos : Pos} {firstLine : Nat} {mg : Str → Option Value}
  {clos : List (Str × Addr)} {Q : Value → Shared → Prop} {dV : Value}
theorem tail_new (hcl : closureFor scope env = pure clos) (hge0 : env.globals = mainGlobals) (hg : s.heap.Ns mainGlobals mg) (hcode : env.code = .ref c) (C : PySem.W.CodeHd s.heap c P) (hP : s.heap.get? P = some (PySem.W.tabObj ps)) (ht : TriplesOk ps.toList)
    (hnf : codeAmong pos ps.toList = none) (hgP : mainGlobals ≠ P) (hb : s.heap.BuiltinsAt mg P)
    (h : ∀ c' ctv h' tk, Heap.ExtBut P s.heap h' → s.heap.objs.size ≤ c' → c' < h'.objs.size → h'.CodeRec (.ref c') qual → h'.get? P = some (PySem.W.tabObj (ps ++ #[rawInt pos.line, rawInt pos.col, .ref c'])) →
      Q (.ref h'.objs.size) { s with heap := h'.push (klaO qual params body scope clos ((mg "__name__").getD .none) c' ctv dV), toks := tk }) :
    wpAny M A (makeTail lamN qual params (.expr body) scope env dV .none none pos firstLine) Q E s := by
  obtain ⟨bm, ob, hbm, hne0, _, hneP, hbo, hcls, hdict, hdata⟩ := hb
  unfold makeTail
  rw [hcl, hge0]
  refine wpAny_bind (wpAny_pure ?_)
  cases clos with
  | nil =>
    simp only [List.isEmpty_nil, if_true]
    refine wpAny_bind (wpAny_pure ?_)
    refine wpAny_bind (wpAny_functionCodeX hcode (C.code hP ht) (C.tab hP) hnf fun c' h' tk hx hge hlt _ hrec htb _ => ?_)
    have hg' := hg.extBut hx hgP
    refine wpAny_bind (wpAny_builtinsFor hg' hbm hne0 (hx _ _ hneP hbo) hcls hdict hdata ?_)
    refine wpAny_bind (wpAny_nsGet hg' ?_)
    exact wpAny_bind (wpAny_pure (wpAny_newObj_type (h c' .none h' tk hx hge hlt hrec htb.2) (by size_fits)))
  | cons q r =>
    simp only [List.isEmpty_cons, Bool.false_eq_true, if_false]
    refine wpAny_bind (wpAny_newTextTuple ?_)
    refine wpAny_bind (wpAny_functionCodeX hcode ((C.keeps fun b o e => Heap.get?_push_of_some _ e).code (Heap.get?_push_of_some _ hP) ht) ((C.keeps fun b o e => Heap.get?_push_of_some _ e).tab (Heap.get?_push_of_some _ hP)) hnf fun c' h' tk hx hge hlt _ hrec htb _ => ?_)
    have hg' := (hg.push _).extBut hx hgP
    have hx' : Heap.ExtBut P s.heap h' := fun b o hb' e => hx b o hb' (Heap.get?_push_of_some _ e)
    have hge' : s.heap.objs.size ≤ c' := Nat.le_trans (by rw [Heap.size_push]; omega) hge
    refine wpAny_bind (wpAny_builtinsFor hg' hbm hne0 (hx' _ _ hneP hbo) hcls hdict hdata ?_)
    refine wpAny_bind (wpAny_nsGet hg' ?_)
    exact wpAny_bind (wpAny_pure (wpAny_newObj_type (h c' _ h' tk hx' hge' hlt hrec htb.2) (by size_fits)))
theorem tail_hit {cv : Value} (hcl : closureFor scope env = pure clos) (hge0 : env.globals = mainGlobals) (hg : s.heap.Ns mainGlobals mg) (hcode : env.code = .ref c) (C : PySem.W.CodeHd s.heap c P) (hP : s.heap.get? P = some (PySem.W.tabObj ps)) (ht : TriplesOk ps.toList)
    (hf : codeAmong pos ps.toList = some cv) (hb : s.heap.BuiltinsAt mg P)
    (h : ∀ (ctv : Value) (h' : Heap) (tk : Tok), (∀ b o, s.heap.get? b = some o → h'.get? b = some o) → s.heap.objs.size ≤ h'.objs.size →
      Q (.ref h'.objs.size) { s with heap := h'.push { cls := .type "function", data := .func (klaD qual params body scope clos ((mg "__name__").getD .none) cv ctv dV) }, toks := tk }) :
    wpAny M A (makeTail lamN qual params (.expr body) scope env dV .none none pos firstLine) Q E s := by
  obtain ⟨bm, ob, hbm, hne0, _, hneP, hbo, hcls, hdict, hdata⟩ := hb
  unfold makeTail
  rw [hcl, hge0]
  refine wpAny_bind (wpAny_pure ?_)
  cases clos with
  | nil =>
    simp only [List.isEmpty_nil, if_true]
    refine wpAny_bind (wpAny_pure ?_)
    refine wpAny_bind (wpAny_functionCode_hit hcode (C.code hP ht) hf ?_)
    refine wpAny_bind (wpAny_builtinsFor hg hbm hne0 hbo hcls hdict hdata ?_)
    refine wpAny_bind (wpAny_nsGet hg ?_)
    exact wpAny_bind (wpAny_pure (wpAny_newObj_type (h .none s.heap s.toks (fun _ _ e => e) (Nat.le_refl _)) (by size_fits)))
  | cons q r =>
    simp only [List.isEmpty_cons, Bool.false_eq_true, if_false]
    refine wpAny_bind (wpAny_newTextTuple ?_)
    refine wpAny_bind (wpAny_functionCode_hit hcode ((C.keeps fun b o e => Heap.get?_push_of_some _ e).code (Heap.get?_push_of_some _ hP) ht) hf ?_)
    refine wpAny_bind (wpAny_builtinsFor (hg.push _) hbm hne0 (Heap.get?_push_of_some _ hbo) hcls hdict hdata ?_)
    refine wpAny_bind (wpAny_nsGet (hg.push _) ?_)
    have hsz : ∀ oT : Obj, s.heap.objs.size ≤ (s.heap.push oT).objs.size := fun oT => by rw [Heap.size_push]; omega
    exact wpAny_bind (wpAny_pure (wpAny_newObj_type (h _ _ s.toks (fun b o e => Heap.get?_push_of_some _ e) (hsz _)) (by size_fits)))
end
/-- what is kept where a lambda is made -/
structure Kept (H H' : Hp) : Prop where
  k : ∀ b o, H b = some o → (∀ ps, o ≠ .tbl ps) → H' b = some o
  n : ∀ b, H b ≠ none → H' b ≠ none
section
variable {X : Cx} {pins : List (Addr × Obj)} {σ : L2.St} {H : Hp} {s : Shared}
theorem lam_tail {T : List (Addr × Str)} {c P : Addr} {params : Arguments} {body : Expr} {scope : Scope} {pos : Pos} {dV : Value} {E : Value → Shared → Prop} {Q : Value → Shared → Prop} (I : Inv X pins σ H s) (TB : TabB X.base X.mg c P) (hcode : X.env.code = .ref c)
    (hm : (P, X.env.qual ++ lamN) ∈ T) (hu : ∀ p ∈ T, p.1 = P → p.2 = X.env.qual ++ lamN) (hT : Tabs T H) (hfree : ∀ y ∈ scope.names, y.2 = .free → ∃ c, X.env.cells.lookup y.1 = some c)
    (h : ∀ (f c' : Addr) (pm ctv : Value) (H1 : Hp) (s' : Shared), Inv X pins σ H1 s' → Kept H H1 → Tabs T H1 →
      s'.heap.get? f = some (klaO (X.env.qual ++ lamN) params body scope (cloFrom X.env.cells scope.names []) pm c' ctv dV) → H1 f = none → f ∉ frs X.stack → H1 c' = some (CodeO c' (X.env.qual ++ lamN)) →
      (∀ b o, s.heap.get? b = some o → H b = none → s'.heap.get? b = some o ∧ H1 b = none) → Q (.ref f) s') :
    wpAny (model X.prog X.w) X.A (makeTail lamN (X.env.qual ++ lamN) params (.expr body) scope X.env dV .none none pos pos.line) Q E s := by
  obtain ⟨ps, hP, ht, ha⟩ := hT _ hm
  have bP : s.heap.BuiltinsAt X.mg P := TB.bm.keeps I.bk
  have hP' : s.heap.get? P = some { cls := .none, data := .fields ps } := I.hok P _ hP
  have nofr : ∀ f, s.heap.objs.size ≤ f → f ∉ frs X.stack := fun f hf z => by
    rcases List.mem_cons.mp (I.stkSub _ z) with e | e
    · have h1 := I.lt
      rw [← e] at h1
      exact Nat.lt_irrefl _ (Nat.lt_of_lt_of_le h1 hf)
    · exact I.nofs hf e
  cases hc : codeAmong pos ps.toList with
  | none =>
    refine tail_new (mg := X.mg) (c := c) (P := P) (ps := ps) (closure_ok hfree) I.ok.glob (I.mod.glob.keeps I.bk) hcode (TB.code.keeps I.bk) hP' ht hc TB.gP bP fun c' ctv h' tk hx hge hlt hrec htb => ?_
    obtain ⟨c2, oc, vs, t, e2, hoc, hd, hv⟩ := hrec
    cases e2
    have hsz : s.heap.objs.size ≤ h'.objs.size := Nat.le_trans hge (Nat.le_of_lt hlt)
    have nC : H c' = none := I.hok.fresh hge
    have I1 := inv_table (t' := tk) (more := #[rawInt pos.line, rawInt pos.col, .ref c']) (h' := h'.push (klaO (X.env.qual ++ lamN) params body scope (cloFrom X.env.cells scope.names []) ((X.mg "__name__").getD .none) c' ctv dV)) I hP
      (fun b o hb e => Heap.get?_push_of_some _ (hx b o hb e)) (Heap.get?_push_of_some _ htb) hge ⟨oc, vs, t, Heap.get?_push_of_some _ hoc, hd, hv⟩
    have hE : Kept H (upd (upd H P (.tbl (ps ++ #[rawInt pos.line, rawInt pos.col, .ref c']))) c' (CodeO c' (X.env.qual ++ lamN))) := ⟨fun b o e n => by
      rw [upd_ne (ne_of_none e nC), upd_ne (fun z => n ps (Option.some.inj (e.symm.trans (by rw [z]; exact hP))))]
      exact e, fun b e => by
      by_cases h1 : b = c'
      · rw [h1, upd_same]; simp
      · rw [upd_ne h1]
        by_cases h2 : b = P
        · rw [h2, upd_same]; simp
        · rw [upd_ne h2]; exact e⟩
    have eL : (ps ++ #[rawInt pos.line, rawInt pos.col, .ref c']).toList = ps.toList ++ [rawInt pos.line, rawInt pos.col, .ref c'] := by simp
    refine h h'.objs.size c' ((X.mg "__name__").getD .none) ctv _ _ I1 hE (fun p hp => ?_) (Heap.get?_push_size _ rfl) ?_ (nofr _ hsz) upd_same fun b o e n => ⟨?_, ?_⟩
    · by_cases hb : p.1 = P
      · rw [hu p hp hb, hb]
        refine ⟨_, by rw [upd_ne (ne_of_none hP nC), upd_same], by rw [eL]; exact PySem.TriplesOk_snoc _ _ _ _ ht, fun p' cv hcv => ?_⟩
        rw [eL] at hcv
        rcases among_app _ ht hcv with z | z
        · obtain ⟨c0, e1, e2⟩ := ha p' cv z
          exact ⟨c0, e1, hE.k _ _ e2 codeO_ne⟩
        · exact ⟨c', z, upd_same⟩
      · obtain ⟨ps', a1, a2, a3⟩ := hT p hp
        refine ⟨ps', by rw [upd_ne (ne_of_none a1 nC), upd_ne hb]; exact a1, a2, fun p' cv hcv => ?_⟩
        obtain ⟨c0, e1, e2⟩ := a3 p' cv hcv
        exact ⟨c0, e1, hE.k _ _ e2 codeO_ne⟩
    · have n1 : h'.objs.size ≠ c' := Nat.ne_of_gt hlt
      have n2 : h'.objs.size ≠ P := Nat.ne_of_gt (Nat.lt_of_lt_of_le (Heap.lt_size hP') hsz)
      rw [upd_ne n1, upd_ne n2]
      exact I.hok.fresh hsz
    · exact Heap.get?_push_of_some _ (hx b o (fun z => by rw [z, hP] at n; cases n) e)
    · have h1 : b ≠ c' := Nat.ne_of_lt (Nat.lt_of_lt_of_le (Heap.lt_size e) hge)
      have h2 : b ≠ P := fun z => by rw [z, hP] at n; cases n
      rw [upd_ne h1, upd_ne h2]
      exact n
  | some cv =>
    obtain ⟨c', e, hco⟩ := ha pos cv hc
    subst e
    refine tail_hit (mg := X.mg) (c := c) (P := P) (ps := ps) (closure_ok hfree) I.ok.glob (I.mod.glob.keeps I.bk) hcode (TB.code.keeps I.bk) hP' ht hc bP fun ctv h' tk hx hsz => ?_
    have I1 : Inv X pins σ H { s with heap := h'.push (klaO (X.env.qual ++ lamN) params body scope (cloFrom X.env.cells scope.names []) ((X.mg "__name__").getD .none) c' ctv dV), toks := tk } := I.kept fun b o e => Heap.get?_push_of_some _ (hx b o e)
    exact h h'.objs.size c' ((X.mg "__name__").getD .none) ctv H _ I1 ⟨fun _ _ e _ => e, fun _ e => e⟩ hT (Heap.get?_push_size _ rfl) (I.hok.fresh hsz) (nofr _ hsz) hco fun b o e n => ⟨Heap.get?_push_of_some _ (hx b o e), n⟩
/-- how the lambda's names are bound when it is called with nothing: at every later state -/
def BindLater (X : Cx) (s : Shared) (H : Hp) (fd : FuncData) (bs : List (Str × Value)) : Prop := ∀ s1 : Shared, (∀ b o, s.heap.get? b = some o → H b = none → b ∉ frs X.stack → s1.heap.get? b = some o) → BindsTo s1 fd ⟨[], []⟩ bs
/-- the two kinds of lambdas -/
inductive LamK (X : Cx) (params : Arguments) (body : Expr) (scope : Scope) : List Str → Prop
  | none (hd : defaultsOf params X.env = ([], [])) (hb : ∀ (q : Str) (cl : List (Str × Addr)) (pm cv ctv : Value), bindArgs (klaD q params body scope cl pm cv ctv .none) ⟨[], []⟩ = pure []) : LamK X params body scope []
  | one {y : Str} {i : Int} {j : Nat} {cpos : Pos} (hd : defaultsOf params X.env = ([eval (.Constant (.int i) j cpos) X.env], []))
      (hb : ∀ (q : Str) (cl : List (Str × Addr)) (pm cv ctv v : Value) (T : Addr), ∃ k, bindArgs (klaD q params body scope cl pm cv ctv (.ref T)) ⟨[], []⟩ = seqItems? (.ref T) >>= k ∧ k (some #[v]) = pure [(y, v)]) : LamK X params body scope [y]
theorem lam_make {T : List (Addr × Str)} {c P : Addr} {params : Arguments} {body : Expr} {scope : Scope} {pos : Pos} {ys : List Str} {Q : Value → Shared → Prop} (LK : LamK X params body scope ys) (I : Inv X pins σ H s) (TB : TabB X.base X.mg c P) (hcode : X.env.code = .ref c)
    (hm : (P, X.env.qual ++ lamN) ∈ T) (hu : ∀ p ∈ T, p.1 = P → p.2 = X.env.qual ++ lamN) (hT : Tabs T H) (hfree : ∀ y ∈ scope.names, y.2 = .free → ∃ c, X.env.cells.lookup y.1 = some c)
    (h : ∀ (f c' : Addr) (pm ctv dV : Value) (bs : List (Str × Value)) (H1 : Hp) (s' : Shared), Inv X pins σ H1 s' → Kept H H1 → Tabs T H1 → bs.map (·.1) = ys → BindLater X s' H1 (klaD (X.env.qual ++ lamN) params body scope (cloFrom X.env.cells scope.names []) pm (.ref c') ctv dV) bs →
      s'.heap.get? f = some (klaO (X.env.qual ++ lamN) params body scope (cloFrom X.env.cells scope.names []) pm c' ctv dV) → H1 f = none → f ∉ frs X.stack → H1 c' = some (CodeO c' (X.env.qual ++ lamN)) → Q (.ref f) s') :
    wpAny (model X.prog X.w) X.A (eval (.Lambda params body scope pos) X.env) Q X.xe s := by
  cases LK with
  | none hd hb =>
    rw [arm_eval_Lambda, hd]
    show wpAny _ _ (do let dv ← evalAll []; let kdv ← holding dv (evalAllOpt []); makeFunction lamN (X.env.qual ++ lamN) params (.expr body) scope X.env dv kdv [] pos pos.line) Q _ s
    refine wpAny_bind (wpAny_pure (wpAny_bind (wpAny_holding (wpAny_pure ?_))))
    rw [makeFunction_eq]
    simp only [List.zip_nil_right, List.filterMap_nil, List.isEmpty_nil, if_true, pure_bind]
    exact lam_tail I TB hcode hm hu hT hfree fun f c' pm ctv H1 s' I1 k t e1 e2 e3 e4 _ => h f c' pm ctv .none [] H1 s' I1 k t rfl (fun s1 _ => .of_eq (hb _ _ _ _ _)) e1 e2 e3 e4
  | @one y i j cpos hd hb =>
    rw [arm_eval_Lambda, hd]
    show wpAny _ _ (do let dv ← evalAll [eval (.Constant (.int i) j cpos) X.env]; let kdv ← holding dv (evalAllOpt []); makeFunction lamN (X.env.qual ++ lamN) params (.expr body) scope X.env dv kdv [] pos pos.line) Q _ s
    refine wpAny_bind ?_
    show wpAny _ _ (do let v ← eval (.Constant (.int i) j cpos) X.env; return v :: (← holding [v] (evalAll []))) _ _ s
    refine wpAny_bind (thn ((pe_int (X := X) (i := i) (j := j) (pos := cpos)).run pins s σ H (fun v H1 => v = .int i ∧ H1 = H) I ⟨rfl, rfl⟩) fun u s1 ⟨v, H1, I1, rv, ev, eH⟩ => ?_)
    subst ev eH
    refine wpAny_bind (wpAny_holding (wpAny_pure (wpAny_pure ?_)))
    refine wpAny_bind (wpAny_holding (wpAny_pure ?_))
    rw [makeFunction_eq]
    simp only [List.zip_nil_right, List.filterMap_nil, List.isEmpty_cons, List.isEmpty_nil, Bool.false_eq_true, if_false, if_true, pure_bind]
    refine wpAny_bind (wpAny_newTextTuple ?_)
    have I2 : Inv X pins σ H1 { s1 with heap := s1.heap.push { cls := .type "tuple", data := .seq [u].toArray } } := I1.kept (t' := s1.toks) fun b o e => Heap.get?_push_of_some _ e
    have nT : H1 s1.heap.objs.size = none := I1.hok.fresh (Nat.le_refl _)
    have oT : (s1.heap.push { cls := .type "tuple", data := .seq [u].toArray }).get? s1.heap.objs.size = some { cls := .type "tuple", data := .seq [u].toArray } := Heap.get?_push_size _ rfl
    have fT : s1.heap.objs.size ∉ frs X.stack := fun z => by
      rcases List.mem_cons.mp (I1.stkSub _ z) with e | e
      · have h1 := I1.lt
        rw [← e] at h1
        exact Nat.lt_irrefl _ h1
      · exact I1.nofs (Nat.le_refl _) e
    refine lam_tail I2 TB hcode hm hu hT hfree fun f c' pm ctv H2 s' I3 k t e1 e2 e3 e4 kp => ?_
    obtain ⟨oT2, nT2⟩ := kp _ _ oT nT
    refine h f c' pm ctv (.ref s1.heap.objs.size) [(y, u)] H2 s' I3 k t rfl (fun s4 hk => ?_) e1 e2 e3 e4
    have oT4 := hk _ _ oT2 nT2 fT
    obtain ⟨kk, q1, q2⟩ := hb (X.env.qual ++ lamN) (cloFrom X.env.cells scope.names []) pm (.ref c') ctv u s1.heap.objs.size
    refine BindsTo.of_looks fun M => ?_
    rw [q1]
    let K' : Frag := [(s1.heap.objs.size, { cls := .type "tuple", data := .seq [u].toArray })]
    have inK : K'.In s4.heap := fun b o e => by
      have e : List.lookup b [(s1.heap.objs.size, ({ cls := .type "tuple", data := .seq [u].toArray } : Obj))] = some o := e
      rw [List.lookup_cons] at e
      cases hb : b == s1.heap.objs.size with
      | true =>
        rw [hb] at e
        rw [eq_of_beq hb]
        cases e
        exact oT4
      | false => rw [hb] at e; cases e
    have lk : K'.lookup s1.heap.objs.size = some { cls := .type "tuple", data := .seq [u].toArray } := by
      show List.lookup _ _ = _
      rw [List.lookup_cons, beq_self_eq_true]
    exact looks_items inK lk rfl (.of_pure q2)
end
end Sim

set_option Elab.async false
set_option linter.all false
set_option maxRecDepth 100000
set_option maxHeartbeats 4000000
/-! x(lambda: e), x a def that calls what it got, in a try -/
namespace Sim
open PySem PySem.Spec PyProof.Rows L2
open LamX (CodeO TabS Tabs TabB ExtN lamEnv lamCx codeO_ne)
/-- the lambda's names: captured ones, globals, its own parameters ys, which are no names of the maker -/
structure LamS3 (N : List Str) (sc scope : Scope) (ys : List Str) : Prop where
  kind : scope.kind = .function
  co : scope.isCoroutine = false
  gen : scope.isGenerator = false
  own : ∀ y ∈ scope.names, y.2 ≠ .cell ∧ (y.2 = .local → y.1 ∈ ys)
  loc : ∀ y ∈ ys, scope.names.lookup y = some .local
  nin : ∀ y ∈ ys, y ∉ N
  free : ∀ y ∈ scope.names, y.2 = .free → sc.names.lookup y.1 = some .cell ∨ sc.names.lookup y.1 = some .free
def lamSB3 (N : List Str) (sc scope : Scope) (ys : List Str) : Bool :=
  decide (scope.kind = .function) && (!scope.isCoroutine && (!scope.isGenerator && ((scope.names.all fun y => !decide (y.2 = .cell) && (!decide (y.2 = .local) || decide (y.1 ∈ ys))) && ((ys.all fun y => decide (scope.names.lookup y = some .local)) && ((ys.all fun y => !decide (y ∈ N)) &&
  scope.names.all fun y => !decide (y.2 = .free) || (decide (sc.names.lookup y.1 = some .cell) || decide (sc.names.lookup y.1 = some .free)))))))
theorem lamS3_by {N : List Str} {sc scope : Scope} {ys : List Str} (h : lamSB3 N sc scope ys = true) : LamS3 N sc scope ys := by
  unfold lamSB3 at h
  simp only [Bool.and_eq_true, Bool.or_eq_true, Bool.not_eq_true', decide_eq_true_eq, decide_eq_false_iff_not, List.all_eq_true] at h
  obtain ⟨h1, h2, h3, h4, h5, h6, h7⟩ := h
  refine ⟨h1, h2, h3, fun y hy => ⟨(h4 y hy).1, fun e => ?_⟩, h5, h6, fun y hy e => ?_⟩
  · rcases (h4 y hy).2 with z | z
    · exact absurd e z
    · exact z
  · rcases h7 y hy with z | z
    · exact absurd e z
    · exact z
theorem LamS3.has {X : Cx} {scope : Scope} {ys : List Str} (L : LamS3 X.N X.env.scope scope ys) (ok : X.Ok) : ∀ y ∈ scope.names, y.2 = .free → ∃ c, X.env.cells.lookup y.1 = some c := fun y hy e => by
  rcases L.free y hy e with k | k
  · exact ok.has _ (.inl k)
  · exact ok.has _ (.inr k)
section
variable {X : Cx} {pins : List (Addr × Obj)} {σ : L2.St} {H HZ : Hp} {s s1 : Shared}
theorem lam_start3 {A : Around} {outer : List Env} {E : XK} {scope : Scope} {ys : List Str} {bs : List (Str × Value)} {f c' : Addr} {h₁ : Heap} {tk : Nat} (I : Inv X pins σ H s) (L : LamS3 X.N X.env.scope scope ys) (e0 : Env0 X.prog X.w X.K X.mg X.base A outer s1 HZ) (hd : A.handled = none)
    (un : Un (frs X.stack) [] H HZ s.heap s1.heap) (hns : h₁.Ns s1.heap.objs.size fun y => bs.reverse.lookup y) (kp : ∀ b o, s1.heap.get? b = some o → h₁.get? b = some o) :
    Inv (lamCx X A outer s1 HZ E scope f c') [] σ HZ { s1 with heap := h₁, toks := tk } := by
  have hfree := L.has I.ok
  have cm : ∀ {y c}, (cloFrom X.env.cells scope.names []).lookup y = some c → X.env.cells.lookup y = some c := fun {y c} e => by
    rcases cloFrom_mem (PySem.mem_of_lookup e) with hm | ⟨h1, h2⟩
    · cases hm
    · obtain ⟨c1, hc⟩ := hfree _ h1 rfl
      have hc : X.env.cells.lookup y = some c1 := hc
      have e2 : c = c1 := by
        rw [h2, hc] <;> rfl
      rw [e2]
      exact hc
  have look : ∀ {y}, scope.names.lookup y = some .free → ∃ c, (cloFrom X.env.cells scope.names []).lookup y = some c := fun {y} hl => by
    have hy : (y, NameKind.free) ∈ scope.names := PySem.mem_of_lookup hl
    exact mem_lookup (cloFrom_has (cells := X.env.cells) (acc := []) hy)
  have cellK : ∀ {c : Addr} {v : Option Value}, H c = none → s.heap.IsCell c v → h₁.IsCell c v := fun {c v} n ⟨o, ho, hd⟩ => by
    obtain ⟨sl, q⟩ := un.any ho n (by simp)
    exact ⟨_, kp _ _ q, hd⟩
  have noA : ∀ b : Addr, b ∉ (lamCx X A outer s1 HZ E scope f c').ex := fun b z => absurd (show b ∈ ([] : List Addr) from z) (by simp)
  refine ⟨⟨e0.mod, L.kind, rfl, rfl, Nat.le_refl _, fun y z c e1 e2 => I.ok.inj y z c (cm e1) (cm e2), fun y hy => ?_, fun y c z _ => ?_, fun _ => hd, Around.frames_deeper e0.frames, .inr ⟨rfl, rfl⟩, fun b z => absurd z (noA b), e0.bs, e0.bsz, fun b _ _ => noA b,
      fun b z => absurd z (noA b), e0.funs, e0.frf⟩,
    rfl, e0.bare, Un.kept kp, ⟨_, hns, fun i y v e1 e2 e3 => ?_⟩, fun y c e => ?_, e0.hok.fresh (Nat.le_refl _), fun y c e => ?_, fun q hq => absurd (show q ∈ ([] : List (Addr × Obj)) ++ [] from hq) (by simp), e0.hok.kept kp, I.len⟩
  · have hy : scope.names.lookup y = some .cell ∨ scope.names.lookup y = some .free := hy
    rcases hy with hy | hy
    · exact absurd rfl (L.own _ (PySem.mem_of_lookup hy)).1
    · exact look hy
  · have z : false = true := z
    cases z
  · have e3 : Vis scope y := e3
    rcases e3 with k | k | k
    · exact absurd (List.mem_of_getElem? e1) (L.nin y ((L.own _ (PySem.mem_of_lookup k)).2 rfl))
    · exact absurd rfl (L.own _ (PySem.mem_of_lookup k)).1
    · obtain ⟨m, hn, hl⟩ := I.loc
      have hvis : Vis X.env.scope y := (L.free _ (PySem.mem_of_lookup k) rfl).elim (fun k => .inr (.inl k)) (fun k => .inr (.inr k))
      obtain ⟨w', r, q⟩ := hl i y v e1 e2 hvis
      obtain ⟨c2, h2⟩ := look k
      refine ⟨w', r, .inr ⟨.inr k, c2, h2, ?_⟩⟩
      have c1 := cm h2
      rcases q with ⟨k', _⟩ | ⟨_, c3, e', z⟩
      · have k' : X.env.scope.names.lookup y = some .local := k'
        rcases L.free _ (PySem.mem_of_lookup k) rfl with k2 | k2 <;> rw [show X.env.scope.names.lookup y = _ from k2] at k' <;> cases k'
      · rw [c1] at e'
        cases e'
        exact cellK (I.freeC y _ c1) z
  · obtain ⟨w', z⟩ := I.cell y c (cm e)
    exact ⟨w', cellK (I.freeC y c (cm e)) z⟩
  · obtain ⟨v, o, ho, hd⟩ := I.cell y c (cm e)
    exact un.free c o ho (I.freeC y c (cm e)) (by simp)
/-- a(), in the def that got the lambda -/
theorem pe_act3 {CXg : CXT} {Eg : XK} {Ng : List Str} {qg : Str} {sg : Scope} {g f c' : Addr} {cdg pm ctv dV : Value} {params : Arguments} {body : Expr} {scope : Scope} {ys : List Str} {bs : List (Str × Value)} {k i : Nat} {a : Str} {pn : List (Addr × Obj)} {xe : Value → Shared → Prop} {W : WX} {E : XK} {tb : TE} {p1 p2 : Pos}
    (I : Inv X pins σ H s) (L : LamS3 X.N X.env.scope scope ys) (hf : s.heap.get? f = some (klaO (X.env.qual ++ lamN) params body scope (cloFrom X.env.cells scope.names []) pm c' ctv dV)) (hfn : H f = none) (hfr : f ∉ frs X.stack)
    (hys : bs.map (·.1) = ys) (hbind : BindLater X s H (klaD (X.env.qual ++ lamN) params body scope (cloFrom X.env.cells scope.names []) pm (.ref c') ctv dV) bs)
    (tk : Takes ((cxOf CXg X.prog X.w X.K X.mg X.base Ng qg sg g cdg X.A X.stack s H Eg).tr pn xe) W) (hW : ∀ cls d σ' H', E cls d H' → W cls d σ' H') (hr : Room (k + 1) (X.A.deeper (envOfC qg sg s.heap.objs.size g cdg)))
    (hbody : ∀ (A : Around) (outer : List Env) (s : Shared) (H : Hp), Room k (A.deeper (lamEnv X scope s.heap.objs.size f c')) → PE (lamCx X A outer s H E scope f c') body tb)
    (hN : Ng[i]? = some a) (hv : Vis sg a) (hd : (a == ("__debug__" : Str)) = false := by decide) (hcd : (a == ("__classdict__" : Str)) = false := by decide) :
    PE ((cxOf CXg X.prog X.w X.K X.mg X.base Ng qg sg g cdg X.A X.stack s H Eg).tr pn xe) (.Call (.Name a p1) [] [] p2)
      (fun σZ HZ Q => σZ[i]? = some (some (.ref f)) ∧ HZ c' = some (CodeO c' (X.env.qual ++ lamN)) ∧ tb σ HZ Q) := by
  refine ⟨fun pinsZ sZ σZ HZ Q IZ h => ?_⟩
  obtain ⟨hs, hc, ht⟩ := h
  refine wpAny_Call_Name_kw (thn ((pe_var (pos := p1) (i := i) hN hv hd hcd).run pinsZ sZ σZ HZ (fun v H1 => v = .ref f ∧ H1 = HZ) IZ ⟨.ref f, hs, rfl, rfl⟩) fun u s1 ⟨v, H1, I1, r1, q1⟩ => ?_)
  obtain ⟨ev, eH⟩ := q1
  subst ev
  rw [eH] at I1
  obtain rfl : u = Value.ref f := r1
  have kpo : ∀ b o, s.heap.get? b = some o → H b = none → b ∉ frs X.stack → s1.heap.get? b = some o := fun b o e n hb => I1.base.keep b o e n hb (fun z => nomatch (show b ∈ ([] : List Addr) from z))
  have of1 : s1.heap.get? f = some (klaO (X.env.qual ++ lamN) params body scope (cloFrom X.env.cells scope.names []) pm c' ctv dV) := kpo f _ hf hfn hfr
  refine PySem.W.callWith_F0 ⟨_, _, _, _, of1⟩ ?_
  have un : Un (frs X.stack) [] H HZ s.heap s1.heap := I1.base
  obtain ⟨⟨oc, vs, t, hoc, hdc, hvc⟩, _, _⟩ := I1.hok c' _ hc
  have rc : codeAny (model X.prog X.w) (X.A.deeper (envOfC qg sg s.heap.objs.size g cdg)) (.call (.ref f) ⟨[], []⟩) (CR (L2.CX X.prog X.w) (envOfC qg sg s.heap.objs.size g cdg :: X.stack) X.prog X.w HZ s1 Q E) s1 := by
    refine PySem.W.kla_callFunE hr.depth of1 rfl L.co L.gen rfl ⟨c', oc, vs, t, rfl, hoc, hdc, hvc⟩ ?_
    refine hbind s1 kpo _ _ _ _ ?_
    refine wpAny_newFunctionEnv (fun y hy => (L.own y hy).1) (fun y hy => L.loc _ (by rw [← hys]; exact List.mem_map_of_mem hy)) (fun h₁ hns hsb => ⟨I1.nolimit.fresh _ hsb, ?_⟩) L.kind
    show codeAny _ _ (.expr body (lamEnv X scope s1.heap.objs.size f c')) _ _
    have kp : ∀ b o, s1.heap.get? b = some o → h₁.get? b = some o := fun b o e => hsb.extBut b o (Nat.ne_of_lt (Heap.lt_size e)) (Heap.get?_push_of_some _ e)
    have J : Inv (lamCx X (X.A.deeper (envOfC qg sg s.heap.objs.size g cdg)) (envOfC qg sg s.heap.objs.size g cdg :: X.stack) s1 HZ E scope f c') [] σ HZ { s1 with heap := h₁, toks := s1.toks + bs.length } :=
      lam_start3 I L I1.env0 hr.hd un hns kp
    refine PySem.W.kla_codeExpr (wpAny_mono ((hbody _ _ s1 HZ (hr.deeper _)).run [] _ _ HZ Q J ht) (fun v s' hq => ?_) fun e s' hq => hq)
    obtain ⟨w', H', J', rv, q⟩ := hq
    exact ⟨w', H', J'.os, J'.bare, J'.base, J'.hok, rv, q⟩
  have hx : Passes (L2.CX X.prog X.w) ((cxOf CXg X.prog X.w X.K X.mg X.base Ng qg sg g cdg X.A X.stack s H Eg).tr pn xe) E := passes_call tk hW
  refine wpAny_call (codeAny_mono rc fun r s' hq => ?_)
  cases r with
  | error e => exact hx pinsZ σZ HZ s1 e s' I1 hq
  | ok fl =>
    cases fl with
    | ret u => exact I1.after hq
    | next => exact False.elim hq
    | brk => exact False.elim hq
    | cont => exact False.elim hq
end
/-! ### the def that calls it -/
def AskG (P : Program) (wd : World) (K : Frag) (mg : Str → Option Value) (base : Heap) (Ng : List Str) (x : Str) (sg : Scope) (g : Addr) (cdg : Value) (bg : List Stmt) (a : Str) (fm : (Sto → Res D) → Sto → Res D) : Prop :=
  ∀ (A : Around) (outer : List Env) (f c' : Addr) (q : Str) (s : Shared) (H : Hp) (Q : VK) (tl : XK → Hp → VK → Prop) (w : Wd) (ml : Sto → Res D), Room 1 (A.deeper (envOfC x sg s.heap.objs.size g cdg)) →
    (∀ (W : WX) (pn : List (Addr × Obj)) (xe : Value → Shared → Prop) (E : XK) (p1 p2 : Pos), Takes ((cxOf C8.CX0 P wd K mg base Ng x sg g cdg A outer s H C8.E0).tr pn xe) W → (∀ cls d σ' H', E cls d H' → W cls d σ' H') →
      PE ((cxOf C8.CX0 P wd K mg base Ng x sg g cdg A outer s H C8.E0).tr pn xe) (.Call (.Name a p1) [] [] p2) (fun σZ HZ Q => σZ[0]? = some (some (.ref f)) ∧ HZ c' = some (CodeO c' q) ∧ tl E HZ Q)) →
    H c' = some (CodeO c' q) → w.H = H → Ok K w → (∀ (w' : Wd) (E' : XK) (Q' : VK), Step w w' → Ok K w' → PR K (Rep K) w' (ml w'.st) Q' E' → tl E' w'.H Q') → PR K (Rep K) w (fm ml w.st) Q E00 →
    ∃ t, PSs (cxOf C8.CX0 P wd K mg base Ng x sg g cdg A outer s H C8.E0).nox bg t ∧ t { nx := fun _ H' => Q .non H', rt := Q } (L2.start Ng [.ref f]) H
structure FnAsk (P : Program) (wd : World) (K : Frag) (mg : Str → Option Value) (base : Heap) (x : Str) (fm : (Sto → Res D) → Sto → Res D) : Prop where
  ex : ∃ (pg : Arguments) (bg : List Stmt) (sg : Scope) (fd : FuncData) (Ng : List Str) (a : Str), FunD K x x pg bg sg [] [] (He.ga K x) fd ∧ FnScope Ng [a] sg ∧ Ng[0]? = some a ∧ Vis sg a ∧ ((a == ("__debug__" : Str)) = false ∧ (a == ("__classdict__" : Str)) = false) ∧ Binds K fd [a] [] ∧
    ∀ cdg, AskG P wd K mg base Ng x sg (He.ga K x) cdg bg a fm
  glo : mg x = some (.ref (He.ga K x))
def eAsk (fm : (Sto → Res D) → Sto → Res D) (me : Em) : Em := fun σ st => noX (fm (me σ) st)
section
variable {X : Cx} {W : WX}
theorem kept_step {w : Wd} {H1 : Hp} (k : Kept w.H H1) : Step w ⟨w.mu, w.st, H1, w.op⟩ :=
  ⟨⟨[], by simp, by simp⟩, fun a o h _ hn => k.k a o h hn, fun _ h => h, Nat.le_refl _, k.n, ⟨[], rfl, by simp⟩⟩
theorem kept_ok {K : Frag} {w : Wd} {H1 : Hp} (ok : Ok K w) (k : Kept w.H H1) (t : Tabs (tabT K) H1) : Ok K ⟨w.mu, w.st, H1, w.op⟩ := by
  refine ⟨ok.len, ok.nd, fun a ha => ?_, fun a ha => ⟨(ok.opn a ha).1, k.n a (ok.opn a ha).2⟩, fun n a o h1 h2 => ?_, t⟩
  · obtain ⟨o, e⟩ := ok.has a ha
    cases q : H1 a with
    | none => exact absurd q (k.n a (not_none e))
    | some o' => exact ⟨o', q⟩
  · have r := ok.obj n a o h1 h2
    have e : H1 a = w.H a := by
      rcases ok.live_obj ⟨n, o, h1, h2⟩ with ⟨vs, e⟩ | ⟨C, dx, fv, e⟩
      · rw [e]; exact k.k a _ e (fun _ z => nomatch z)
      · rw [e]; exact k.k a _ e (fun _ z => nomatch z)
    exact r.step (kept_step k) ok e
theorem se_ask {fm : (Sto → Res D) → Sto → Res D} {me : Em} {x : Str} {c P : Addr} {k : Nat} {params : Arguments} {body : Expr} {scope : Scope} {ys : List Str} {p lpos pos : Pos} (F : FnAsk X.prog X.w X.K X.mg X.base x fm) (hr : Room (k + 2) X.A)
    (TB : TabB X.base X.mg c P) (hcode : X.env.code = .ref c) (hmT : (P, X.env.qual ++ lamN) ∈ tabT X.K) (hu : ∀ p ∈ tabT X.K, p.1 = P → p.2 = X.env.qual ++ lamN) (L : LamS3 X.N X.env.scope scope ys) (LK : LamK X params body scope ys)
    (hbody : ∀ (A : Around) (outer : List Env) (s : Shared) (H : Hp) (E : XK) (f c' : Addr), Room k (A.deeper (lamEnv X scope s.heap.objs.size f c')) → SE (lamCx X A outer s H E scope f c') (wOf E) body me)
    (hg : Gl X x := by rfl) (hdb : (x == ("__debug__" : Str)) = false := by decide) :
    SE X W (.Call (.Name x p) [.Lambda params body scope lpos] [] pos) (eAsk fm me) := by
  obtain ⟨pg, bg, sg, fd, Ng, a, FD, Sg, hNg, hva, ⟨hd, hcd⟩, hb, hG⟩ := F.ex
  obtain ⟨oc, od, dV, kV, doc, pm, an, cdv, ct, osl, rfl, lk, hcg, _, _⟩ := FD.ex
  refine ⟨fun pins s σV H Q I q => ?_⟩
  obtain ⟨w, σ, rfl, ok, sl, pr⟩ := q
  refine wpAny_Call_Name_kw (ld_glob I hg F.glo ?_ hdb)
  refine PySem.W.callWith_K (h₀ := X.base) I.ok.mod.kin FD.kp ?_ (by rfl) (by rfl)
  show wpAny _ _ (spliced ((false, eval (.Lambda params body scope lpos) X.env) :: backTo pos (starEach [] X.env))) _ _ s
  refine Calls.spliced_cons (lam_make LK I TB hcode hmT hu ok.tab (L.has I.ok) fun f c' pm' ctv dV' bs H1 s' I1 kE T1 hys hbl hf hfn hfr hco => ?_)
  refine Calls.spliced_nil ⟨I1.kIn, ?_⟩
  have s1 := kept_step (w := w) kE
  have ok1 := kept_ok ok kE T1
  have pr1 : PR X.K (Rep X.K) ⟨w.mu, w.st, H1, w.op⟩ (fm (me σ) w.st) Q E00 := by
    have z := PR.step s1 ok pr
    show PR _ _ _ _ _ _
    unfold eAsk at z
    cases e : fm (me σ) w.st with
    | ok d st2 => rw [e] at z; exact z
    | exc x st2 => rw [e] at z; exact z.elim
    | bad => rw [e] at z; exact z.elim
  have rc : codeAny (model X.prog X.w) X.A (.call (.ref (He.ga X.K x)) ⟨[.ref f], []⟩) (CR C8.CX0 X.stack X.prog X.w H1 s' Q C8.E0) s' := by
    refine LamX.run_ofS (N := Ng) (ps := [a]) (us := [.ref f]) (vs := [.ref f]) lk hcg Sg hr I1.env0 (hb s' [.ref f] I1.kIn rfl) (.cons rfl .nil) rfl fun hr' => ?_
    obtain ⟨t', ht', hq'⟩ := hG cdv X.A X.stack f c' (X.env.qual ++ lamN) s' H1 Q (fun E' H' Q' => TEm X.K me (wOf E') σV H' Q') ⟨w.mu, w.st, H1, w.op⟩ (me σ) (hr'.mono (by omega))
      (fun W2 pn xe E p1 p2 tk hW => pe_act3 (i := 0) I1 L hf hfn hfr hys hbl tk hW hr' (fun A outer s H hr2 => hbody A outer s H E f c' hr2) hNg hva hd hcd) hco rfl ok1
      (fun w' E' Q' st' ok' p' => ⟨w', σ, rfl, ok', (sl.step s1 ok).step st' ok1, p'⟩) pr1
    exact ⟨t', ht'.nox, hq'⟩
  refine wpAny_call (codeAny_mono rc fun r s2 hq => ?_)
  cases r with
  | error e => exact (show False from hq).elim
  | ok fl =>
    cases fl with
    | ret u => exact I1.after hq
    | next => exact False.elim hq
    | brk => exact False.elim hq
    | cont => exact False.elim hq
end
/-! ### try: return ["told", a()] / except C as e: suite -/
def finS (n : Nat) (r : RS) : Res D := match r with
  | .nx _ st' => finR n .non st'
  | .rt d st' => finR n d st'
  | _ => .bad
theorem fin_step {K : Frag} {w w1 : Wd} {r : RS} {Q : VK} (s : Step w w1) (ok : Ok K w) (h : PR K (Rep K) w (finS w.st.length r) Q E00) (hop : w1.op = w.op) : PSr K w1 r { nx := fun _ H' => Q .non H', rt := Q } W0 := by
  obtain ⟨mu', st', H', op'⟩ := w1
  obtain rfl : op' = w.op := hop
  cases r with
  | nx σ st => exact fun σV mu H t o sl => finR_ok ok (s.trans t ok) o .non h
  | rt d st => exact fun v mu H t o r => finR_ok ok (s.trans t ok) o r h
  | exc x σ st => exact h.elim
  | bk σ st => exact h.elim
  | ct σ st => exact h.elim
  | bad => exact h.elim
/-- n: how many names the def has -/
def fAsk (n : Nat) (z : Str) (an : Str → List Str) (leafs : List Str) (cl : List Cl) (ml : Sto → Res D) (st : Sto) : Res D :=
  finS st.length (sTry an leafs cl (fun σ st => (ml st).toRS σ fun d st1 => .rt (.lst [.str z, d]) st1) (List.replicate n none) st)
theorem ask_gives {P : Program} {wd : World} {K : Frag} {mg : Str → Option Value} {base : Heap} {Ng : List Str} {x a : Str} {z : Str} {sg : Scope} {g : Addr} {cdg : Value} {jz : Nat} {p1 p2 p3 p4 p5 p6 : Pos} {h₀ : ExceptHandler} {hds : List ExceptHandler} {cl : List Cl} {an : Str → List Str} {leafs : List Str}
    (nd : Ng.Nodup) (hlen : 1 ≤ Ng.length) (hh : ∀ (A : Around) (outer : List Env) (s : Shared) (H : Hp), Room 1 (A.deeper (envOfC x sg s.heap.objs.size g cdg)) → HdsS (cxOf C8.CX0 P wd K mg base Ng x sg g cdg A outer s H C8.E0).nox (h₀ :: hds) cl)
    (hex : ∀ C ∈ leafs, ∀ k ∈ cl, PySem.W.exmOne K (.ref (He.ga K C)) (.ref (He.ga K k.c)) = some (decide (k.c ∈ an C)))
    (hst : ∀ (A : Around) (outer : List Env) (s : Shared) (H : Hp), starEach [.Constant (.str z) jz p1, .Call (.Name a p2) [] [] p3] (cxOf C8.CX0 P wd K mg base Ng x sg g cdg A outer s H C8.E0).env = (false, eval (.Constant (.str z) jz p1) (cxOf C8.CX0 P wd K mg base Ng x sg g cdg A outer s H C8.E0).env) :: starEach [.Call (.Name a p2) [] [] p3] (cxOf C8.CX0 P wd K mg base Ng x sg g cdg A outer s H C8.E0).env := by intros; rfl)
    (hst2 : ∀ (A : Around) (outer : List Env) (s : Shared) (H : Hp), starEach [.Call (.Name a p2) [] [] p3] (cxOf C8.CX0 P wd K mg base Ng x sg g cdg A outer s H C8.E0).env = (false, eval (.Call (.Name a p2) [] [] p3) (cxOf C8.CX0 P wd K mg base Ng x sg g cdg A outer s H C8.E0).env) :: starEach [] (cxOf C8.CX0 P wd K mg base Ng x sg g cdg A outer s H C8.E0).env := by intros; rfl) :
    AskG P wd K mg base Ng x sg g cdg [.Try [.Return (some (.List [.Constant (.str z) jz p1, .Call (.Name a p2) [] [] p3] p4)) p5] (h₀ :: hds) [] [] p6] a (fAsk Ng.length z an leafs cl) := by
  intro A outer f c' q s H Q tl w ml hroom act hc hH ok hml p
  subst hH
  refine ⟨_, pss_one (ps_try_cl (X := (cxOf C8.CX0 P wd K mg base Ng x sg g cdg A outer s w.H C8.E0).nox)
      (tb := fun W' D σV H => σV[0]? = some (some (.ref f)) ∧ H c' = some (CodeO c' q) ∧ tl (fun c d H' => ∀ σ' : L2.St, σ'.length = Ng.length → W' c d σ' H') H fun v H1 => [V.str z, v].length ≤ sizeLine ∧ ∀ p, H1 p = none → D.rt (.ref p) (upd H1 p (.lst [V.str z, v])))
      rfl rfl nd takes0 (fun W' pn xe tk _ => ?_) (hh A outer s w.H hroom).raw), ?_⟩
  · refine ⟨fun pins s' σ H' D I h' => ?_⟩
    obtain ⟨h1, h2, h3⟩ := h'
    have tk2 : Takes ((cxOf C8.CX0 P wd K mg base Ng x sg g cdg A outer s w.H C8.E0).tr pn xe) (fun c d σ' H' => σ'.length = Ng.length → W' c d σ' H') := fun u s2 ⟨a1, B, sI, pi, σ2, H2, cls, d, e, I2, nb, up, sky, na, os, ag, w2⟩ =>
      tk u s2 ⟨a1, B, sI, pi, σ2, H2, cls, d, e, I2, nb, up, sky, na, os, ag, w2 I2.len⟩
    have hp := act (fun c d σ' H' => σ'.length = Ng.length → W' c d σ' H') pn xe (fun c d H' => ∀ σ' : L2.St, σ'.length = Ng.length → W' c d σ' H') p2 p3 tk2 (fun c d σ' H' hE hl => hE σ' hl)
    have hq := pss_one (ps_ret (pos := p5) (pe_lst (pos := p4) (pa_cons (pe_str (x := z) (j := jz) (pos := p1)) (pa_cons hp pa_nil (hst2 A outer s w.H)) (hst A outer s w.H))))
    exact hq.run pins s' σ H' D I ⟨h1, h2, h3⟩
  · refine ⟨?_, hc, hml w _ _ (.refl _) ok ?_⟩
    · unfold L2.start
      simp
    · unfold fAsk sTry at p
      cases e : ml w.st with
      | bad => simp only [e, Res.toRS] at p; exact p.elim
      | ok d st1 =>
        simp only [e, Res.toRS] at p
        intro b mu H1 s1 o1 r1
        refine ⟨by rw [sizeLine_eq]; exact (by decide : 2 ≤ 16777216), fun pa hpa => ?_⟩
        have s2 := put_step (w := ⟨mu, st1, H1, w.op⟩) (o := .lst [V.str z, b]) hpa
        have o2 := put_ok (o := .lst [V.str z, b]) o1 hpa
        have rr : Rep K (Wd.put ⟨mu, st1, H1, w.op⟩ pa (.lst [V.str z, b])) (.ref pa) (.lst [.str z, d]) := rep_new_lst o1 hpa (.cons (.str z) (.cons r1 .nil))
        exact finR_ok (mu := mu) (st := st1) ok (s1.trans s2 ok) o2 rr p
      | exc xx st1 =>
        simp only [e, Res.toRS] at p
        intro c dd mu H1 s1 o1 rx σ' hl
        by_cases hx : xx.cls ∈ leafs
        · rw [if_pos hx] at p
          have p2 := fin_step s1 ok p rfl
          exact hd_reads (w := ⟨mu, st1, H1, w.op⟩) (hex _ hx) o1 ⟨by rw [List.length_replicate, hl], fun i d e => by
            rw [List.getElem?_replicate] at e
            split at e <;> cases e⟩ rx p2
        · rw [if_neg hx] at p
          exact p.elim
end Sim

set_option Elab.async false
set_option linter.all false
set_option maxRecDepth 100000
set_option maxHeartbeats 4000000
/-! what the generated texts want of the defs that make lambdas, of the classes that clauses name -/
namespace Sim
open PySem PySem.Spec PyProof.Rows L2
open LamX (TabB lamEnv lamCx)
section
variable {P : Program} {wd : World} {K : Frag} {mg : Str → Option Value} {base : Heap}
theorem fn_simC {x qual : Str} {params : Arguments} {body : List Stmt} {scope : Scope} {dvs : List V} {kws : List (Str × V)} {fd : FuncData} {N ps : List Str} {k : Nat} {m : Sm}
    (F : FunD K x qual params body scope dvs kws (He.ga K x) fd) (S : FnScope N ps scope)
    (hb : ∀ (cdv : Value), cdv = .ref (He.cT K (x, none)).1 → ∀ (A : Around) (outer : List Env) (s : Shared) (H : Hp) (E : XK), Room k (A.deeper (envOfC qual scope s.heap.objs.size (He.ga K x) cdv)) →
      SSs (cxOf (CXp P wd) P wd K mg base N qual scope (He.ga K x) cdv A outer s H E) (wOf E) body m) : FnOk P wd K mg base (CXp P wd) (k + 1) (He.ga K x) fd ps (spM K ps.length (runDef N.length m)) := by
  obtain ⟨oc, od, dV, kV, doc, pm, an, cdv, ct, osl, rfl, lk, hcd, _, _⟩ := F.ex
  obtain ⟨c, rfl⟩ := He.codeIn_ref hcd
  have e : He.codeOf K (x, none) = c := He.codeOf_eq (p := (x, none)) (by exact lk) rfl
  exact fn_of lk hcd S (fun vs H Q E h => h.len) fun A outer s H vs Q E hr hsp => ⟨_, hb (.ref c) (by rw [← e]; rfl) A outer s H E hr, body_reads hsp⟩
theorem lam_takes {X : Cx} {A : Around} {outer : List Env} {s : Shared} {H : Hp} {E : XK} {scope : Scope} {f c' : Addr} : Takes (lamCx X A outer s H E scope f c') (wOf E) := takes_of rfl rfl rfl rfl
theorem subB_ok {K : Frag} {owns : List Str} (h : subB K owns = true) : ∀ C ∈ owns, PySem.W.subIn K (.ref (He.ga K C)) (.type "BaseException") = some true := fun C hC => of_decide_eq_true (List.all_eq_true.mp h C hC)
def qualL (x : Str) : Str := (x ++ (".<locals>." : Str)) ++ ("<lambda>" : Str)
theorem tab_mem {x : Str} (h : x ∈ tabN) : ((He.cT K (x, none)).2, qualL x) ∈ tabT K := List.mem_map_of_mem (f := fun x => ((He.cT K (x, none)).2, qualL x)) h
theorem tab_uniq {x : Str} (hi : tabInj K = true) (h : x ∈ tabN) : ∀ p ∈ tabT K, p.1 = (He.cT K (x, none)).2 → p.2 = qualL x := fun p hp e => by
  obtain ⟨y, hy, rfl⟩ := List.mem_map.mp hp
  have z := List.all_eq_true.mp (List.all_eq_true.mp hi y hy) x h
  simp only [Bool.or_eq_true, decide_eq_true_eq, Bool.not_eq_true', decide_eq_false_iff_not] at z
  rcases z with z | z
  · rw [z]; rfl
  · exact absurd e z
variable {ancO : Str → List Str} {ancT : Str → List String} {leafs owns : List Str}
theorem exm_ok (h : isTabB K ancO ancT leafs owns = true) (hs : ∀ C ∈ leafs, C ∈ ancO C ∧ ∀ A ∈ ancO C, A ∈ owns) (hx : ∀ C ∈ owns, PySem.W.subIn K (.ref (He.ga K C)) (.type "BaseException") = some true) {C T : Str} (hC : C ∈ leafs) (hT : T ∈ owns) :
    PySem.W.exmOne K (.ref (He.ga K C)) (.ref (He.ga K T)) = some (decide (T ∈ ancO C)) := by
  obtain ⟨cd, h1, h2⟩ := isTab_mro h hC
  obtain ⟨h3, h4⟩ := Bool.and_eq_true_iff.mp (Bool.and_eq_true_iff.mp h).2
  have inj := incr_inj h4
  have hT2 := List.all_eq_true.mp h3 T hT
  have hne : cd.mro ≠ [] := by
    rw [h2]
    intro z
    have z1 := (List.append_eq_nil_iff.mp z).1
    have z2 := (hs C hC).1
    rw [List.map_eq_nil_iff.mp z1] at z2
    cases z2
  have hc : cd.mro.contains (.ref (He.ga K T)) = decide (T ∈ ancO C) := by
    rw [h2]
    by_cases hm : T ∈ ancO C
    · rw [decide_eq_true hm]
      simp only [List.contains_eq_mem, decide_eq_true_eq]
      exact List.mem_append_left _ (List.mem_map_of_mem (f := fun A => Value.ref (He.ga K A)) hm)
    · rw [decide_eq_false hm]
      simp only [List.contains_eq_mem, decide_eq_false_iff_not]
      intro z
      rcases List.mem_append.mp z with z | z
      · obtain ⟨A, hA, hv⟩ := List.mem_map.mp z
        have q : He.ga K A = He.ga K T := Value.ref.inj hv
        rw [inj A ((hs C hC).2 A hA) T hT q] at hA
        exact hm hA
      · obtain ⟨A, hA, hv⟩ := List.mem_map.mp z
        cases hv
  unfold PySem.W.exmOne
  rw [if_pos (by rw [hx T hT]; rfl)]
  unfold PySem.W.kitCls
  have q4 : ((PySem.W.clsIn K (He.ga K T)).isSome && PySem.W.typeIn K (.ref (He.ga K T)) == some (.type "type")) = true := by
    obtain ⟨a1, a2⟩ := Bool.and_eq_true_iff.mp hT2
    rw [a1, of_decide_eq_true a2]
    simp
  simp only [q4, if_true]
  rw [mro_sub h1 hne, hc]
end
end Sim

set_option Elab.async false
set_option linter.all false
set_option maxRecDepth 100000
set_option maxHeartbeats 4000000

namespace K01
open PySem PySem.Spec PyProof.Rows L2 Sim
theorem anc_ok : ∀ C ∈ leafs, C ∈ ancO C ∧ ∀ A ∈ ancO C, A ∈ owns := by
  have h : (leafs.all fun C => (ancO C).contains C && (ancO C).all fun A => owns.contains A) = true := by decide +kernel
  intro C hC
  have z := List.all_eq_true.mp h C hC
  obtain ⟨h1, h2⟩ := Bool.and_eq_true_iff.mp z
  exact ⟨by simpa using h1, fun A hA => by simpa using List.all_eq_true.mp h2 A hA⟩
structure Ev (K : Frag) (mg : Str → Option Value) (base : Heap) : Prop where
  s : He5.SaysA fa fn K
  x : ∀ f ∈ xs, f K = true
  g : ∀ x ∈ gnames, mg x = some (.ref (He.ga K x))
  f : ∀ x ∈ fnames, mg x = none
  b : ∀ e ∈ gblL, mg e.1 = some (.builtin e.2)
  t : ∀ x ∈ tabN, LamX.TabB base mg (He.cT K (x, none)).1 (He.cT K (x, none)).2
section
variable {K : Frag} {mg : Str → Option Value} {base : Heap}
theorem Ev.ix (ev : Ev K mg base) (i : Nat) {f : Frag → Bool} (h : xs[i]? = some f) : f K = true := ev.x f (List.mem_of_getElem? h)
theorem Ev.says (ev : Ev K mg base) : He5.SaysA fa fn K := ev.s
theorem Ev.glo (ev : Ev K mg base) (x : Str) (h : x ∈ gnames := by decide +kernel) : mg x = some (.ref (He.ga K x)) := ev.g x h
theorem Ev.free (ev : Ev K mg base) (x : Str) (h : x ∈ fnames := by decide +kernel) : mg x = none := ev.f x h
theorem Ev.gbl (ev : Ev K mg base) (x : Str) {id : String} (h : (x, id) ∈ gblL := by decide +kernel) : mg x = some (.builtin id) := ev.b _ h
theorem Ev.inf (ev : Ev K mg base) {e : Str × List Str} (h : e ∈ insL) : InF K e.1 e.2 := insB_ok (List.all_eq_true.mp (ev.ix 0 (f := fun K => insL.all fun e => insB K (He.ga K e.1) e.2) rfl) e h)
theorem Ev.stm (ev : Ev K mg base) {e : Str × Str} (h : e ∈ stmL) : StM K (He.ga K e.1) e.2 (He.ma K (He.ga K e.1) e.2) (He5.wf K (He.ga K e.1) "staticmethod" e.2) := stmB_ok (List.all_eq_true.mp (ev.ix 1 (f := fun K => stmL.all fun e => stmB K (He.ga K e.1) e.2) rfl) e h)
theorem Ev.nocs (ev : Ev K mg base) {T : String} (hT : T ∈ tyL) : ∀ C ∈ clsL, PySem.W.kitOne K (.ref (He.ga K C)) (.type T) = some false := notB_ok (ev.ix 2 (f := fun K => notB K clsL) rfl) hT
theorem Ev.tup (ev : Ev K mg base) {e : Str × List Int} (h : e ∈ tupL) : He.tupB K e.1 (dvI e.2) = true := List.all_eq_true.mp (ev.ix 4 (f := fun K => tupL.all fun e => He.tupB K e.1 (dvI e.2)) rfl) e h
theorem Ev.tab (ev : Ev K mg base) : isTabB K ancO ancT leafs owns = true := ev.ix 5 (f := fun K => isTabB K ancO ancT leafs owns) rfl
theorem Ev.exx (ev : Ev K mg base) {e : Str × Bs × List Str} (h : e ∈ exL) : exB K (He.ga K e.1) e.2.1 e.2.2 = true := List.all_eq_true.mp (ev.ix 6 (f := fun K => exL.all fun e => exB K (He.ga K e.1) e.2.1 e.2.2) rfl) e h
theorem Ev.sub (ev : Ev K mg base) : subB K owns = true := ev.ix 7 (f := fun K => subB K owns) rfl
theorem Ev.inj (ev : Ev K mg base) : tabInj K = true := ev.ix 8 (f := tabInj) rfl
theorem Ev.tab_ (ev : Ev K mg base) (x : Str) (h : x ∈ tabN := by decide +kernel) : LamX.TabB base mg (He.cT K (x, none)).1 (He.cT K (x, none)).2 := ev.t x h
theorem ev_of {h h' : Heap} (X : K.In h) (G : h.Ns mainGlobals mg) (c : SaysS fa fn xs tf h' K) (t : ∀ x ∈ tabN, LamX.TabB base mg (He.cT K (x, none)).1 (He.cT K (x, none)).2) : Ev K mg base := by
  have a := (He.ba (show ((fa.all fun f => f.ok K) && fn.all fun d => d.ok K) = true from congrArg (fun z : He.AlD => z.1) c.d)).1
  have hx : ∀ f ∈ xs, f K = true := fun f hf => List.all_eq_true.mp (congrArg (fun z : AlS => z.2) c.o) f hf
  refine ⟨c.d, hx, fun x hx => He.glo_ok X G (List.all_eq_true.mp a _ ?_), fun x hx => He.free_ok X G (List.all_eq_true.mp a _ ?_), fun e he => gblB_ok X G (List.all_eq_true.mp (c.x 3 (f := fun K => gblL.all fun e => gblB K e.1 e.2) rfl) e he), t⟩
  · exact List.mem_append_left _ (List.mem_map_of_mem hx)
  · exact List.mem_append_right _ (List.mem_map_of_mem hx)
end
end K01

set_option Elab.async false
set_option linter.all false
set_option maxRecDepth 100000
set_option maxHeartbeats 4000000

namespace K01
open PySem PySem.Spec PyProof.Rows L2 Sim
variable {P : Program} {w : World} {K : Frag} {mg : Str → Option Value} {base : Heap}
def slotN (i : Nat) (σ : Sl) : Nat := match σ[i]? with
  | some (some (.int z)) => z.natAbs + 2
  | _ => 0
def w__law_low_418 : Sl → Nat := slotN 3
abbrev si_DividedByZero : Stmt := inCls (top 14) 0
abbrev tp_DividedByZero : List (Str × Fl) := [("code", .s "DividedByZero")]
abbrev md_DividedByZero : List (Nat × List Str × Bool) := [(0, [], false)]
theorem sci_DividedByZero : FnScope ["self"] ["self"] (defScope si_DividedByZero) := ⟨rfl, rfl, rfl, by decide +kernel, rfl, by decide +kernel, by decide +kernel⟩
theorem mk_DividedByZero (ev : Ev K mg base) : MkX P w K mg base "DividedByZero" 0 tp_DividedByZero md_DividedByZero := by
  have f : ExF K "DividedByZero" ["code"] := exB_ok (b := .ae) (ev.exx (by decide +kernel : (("DividedByZero" : Str), Bs.ae, (["code"] : List Str)) ∈ exL))
  obtain ⟨fd, F⟩ := ev.says.def_ DI_DividedByZero rfl
  refine ⟨f.T, ⟨_, fd, ["self"], f.iC, f.tI, ok_init1 f.T (f.no _ (by simp)) F sci_DividedByZero, ?_⟩, ev.glo "DividedByZero", fun fs h => f.cls fs (by rw [h]; decide +kernel), f.ty⟩
  intro md h
  simp only [md_DividedByZero, List.mem_cons, List.not_mem_nil, or_false] at h
  subst h
  exact kbn F 1 [] false (fun _ _ _ _ _ _ us ws h1 h2 => match us, ws, h1, h2 with | [_], [], _, _ => rfl)

abbrev si_InvalidPower : Stmt := inCls (top 11) 0
abbrev tp_InvalidPower : List (Str × Fl) := [("code", .s "InvalidPower"), ("value", .a 0)]
abbrev md_InvalidPower : List (Nat × List Str × Bool) := [(1, [], false)]
theorem sci_InvalidPower : FnScope ["self", "value"] ["self", "value"] (defScope si_InvalidPower) := ⟨rfl, rfl, rfl, by decide +kernel, rfl, by decide +kernel, by decide +kernel⟩
theorem mk_InvalidPower (ev : Ev K mg base) : MkX P w K mg base "InvalidPower" 1 tp_InvalidPower md_InvalidPower := by
  have f : ExF K "InvalidPower" ["code", "value"] := exB_ok (b := .ve) (ev.exx (by decide +kernel : (("InvalidPower" : Str), Bs.ve, (["code", "value"] : List Str)) ∈ exL))
  obtain ⟨fd, F⟩ := ev.says.def_ DI_InvalidPower rfl
  refine ⟨f.T, ⟨_, fd, ["self", "value"], f.iC, f.tI, ok_init2 f.T rfl rfl (f.no _ (by simp)) (f.no _ (by simp)) F sci_InvalidPower, ?_⟩, ev.glo "InvalidPower", fun fs h => f.cls fs (by rw [h]; decide +kernel), f.ty⟩
  intro md h
  simp only [md_InvalidPower, List.mem_cons, List.not_mem_nil, or_false] at h
  subst h
  exact kbn F 2 [] false (fun _ _ _ _ _ _ us ws h1 h2 => match us, ws, h1, h2 with | [_, _], [], _, _ => rfl)

abbrev N_is_fraction : List Str := ["value", "part"]
abbrev st_is_fraction : Stmt := top 16
theorem sc_is_fraction : FnScope N_is_fraction ["value"] (defScope st_is_fraction) := ⟨rfl, rfl, rfl, by decide +kernel, rfl, by decide +kernel, by decide +kernel⟩
def m_is_fraction : Sm := (sSeq (sIf (tOr (tNot (tOf (eUn (isiD (isB "tuple" clsL)) (eVar 0)))) (tOf (eBin neD (eCB lenD (aCons (eVar 0) aNil)) (eC (.int 2))))) (sRet (eC (.bl false))) sNil) (sSeq (sFor (iVal (eVar 0)) (gN 1) (sIf (tOr (tNot (tOf (eUn (isiD (isB "int" clsL)) (eVar 1)))) (tOf (eUn (isiD (isB "bool" clsL)) (eVar 1)))) (sRet (eC (.bl false))) sNil)) (sRet (eAnd (eBin geI (eBin ixD (eVar 0) (eC (.int 1))) (eC (.int 1))) (eBin eqD (eCB gcdD (aCons (eBin ixD (eVar 0) (eC (.int 0))) (aCons (eBin ixD (eVar 0) (eC (.int 1))) aNil))) (eC (.int 1)))))))
def f_is_fraction : List D → Sto → Res D := chk 1 (runDef 2 m_is_fraction)
theorem fk_is_fraction (ev : Ev K mg base) {fd : FuncData} (F : FunD K "is_fraction" "is_fraction" (defArgs st_is_fraction) (defBody st_is_fraction) (defScope st_is_fraction) [] [] (He.ga K "is_fraction") fd) : FnOk P w K mg base (CXp P w) 1 (He.ga K "is_fraction") fd ["value"] (spM K 1 f_is_fraction) := by
  have h : spM K 1 f_is_fraction = spM K 1 (runDef 2 m_is_fraction) := runDef_chk
  rw [h]
  exact fn_sim (N := N_is_fraction) F sc_is_fraction fun cdv A outer s H E hr => (sss_cons (ss_if (st_sw (sw_or (st_not (st_val (se_isi (ev.free "isinstance") (se_var (pv 0)) (cls_ty (ev.free "tuple")) (isB_ok (by decide) (ev.nocs (by decide)))))) (sw_or1 (st_ne hr (se_cb call_len gc_len (ev.free "len") (sa_cons (se_var (pv 0)) sa_nil)) se_int)))) (sss_one (ss_ret se_bl)) sss_nil) (sss_cons (ss_for cx_own rfl (si_val (se_var (pv 0))) (sg_name (i := 1) sc_is_fraction.nd rfl (by first | exact Or.inl rfl | exact Or.inr rfl)) (sss_one (ss_if (st_sw (sw_or (st_not (st_val (se_isi (ev.free "isinstance") (se_var (pv 1)) (cls_ty (ev.free "int")) (isB_ok (by decide) (ev.nocs (by decide)))))) (sw_or1 (st_val (se_isi (ev.free "isinstance") (se_var (pv 1)) (cls_ty (ev.free "bool")) (isB_ok (by decide) (ev.nocs (by decide)))))))) (sss_one (ss_ret se_bl)) sss_nil))) (sss_one (ss_ret (se_and (se_ge (se_ix (se_var (pv 0)) se_int) se_int) (se_one (se_eq hr (se_cbG cr_gcd gc_gcd (ev.gbl "gcd") (sa_cons (se_ix (se_var (pv 0)) se_int) (sa_cons (se_ix (se_var (pv 0)) se_int) sa_nil))) se_int)))))))
theorem ok_is_fraction (ev : Ev K mg base) : Fn P w K mg base "is_fraction" 1 1 f_is_fraction := by
  obtain ⟨fd, F⟩ := ev.says.def_ D_is_fraction rfl
  exact ⟨⟨fd, ["value"], fk_is_fraction ev F, (F.bindsN fun _ _ _ _ _ _ us hl => match us, hl with | [_], _ => rfl)⟩, ev.glo "is_fraction", F.kp, chk_len⟩
abbrev mdk_is_fraction : List (Nat × List Str × Bool) := [(0, ["value"], false)]
theorem okk_is_fraction (ev : Ev K mg base) : FnK P w K mg base "is_fraction" 1 1 f_is_fraction mdk_is_fraction := by
  obtain ⟨fd, F⟩ := ev.says.def_ D_is_fraction rfl
  refine ⟨⟨fd, ["value"], fk_is_fraction ev F, ?_⟩, ev.glo "is_fraction", F.kp, chk_len⟩
  intro md h
  simp only [mdk_is_fraction, List.mem_cons, List.not_mem_nil, or_false] at h
  subst h
  exact kbn F 0 ["value"] false (fun _ _ _ _ _ _ us ws h1 h2 => match us, ws, h1, h2 with | [], [_], _, _ => rfl)
abbrev N_ratio : List Str := ["upper", "lower", "common"]
abbrev st_ratio : Stmt := top 17
theorem sc_ratio : FnScope N_ratio ["upper", "lower"] (defScope st_ratio) := ⟨rfl, rfl, rfl, by decide +kernel, rfl, by decide +kernel, by decide +kernel⟩
def m_ratio : Sm := (sSeq (sIf (tOf (eBin eqD (eVar 1) (eC (.int 0)))) (sRaise "DividedByZero" tp_DividedByZero 0 aNil) sNil) (sSeq (sSet 2 (eCB gcdD (aCons (eVar 0) (aCons (eVar 1) aNil)))) (sSeq (sIf (tOf (eBin ltI (eVar 1) (eC (.int 0)))) (sRet (eTup (aCons (eBin fdivI (eUn negI (eVar 0)) (eVar 2)) (aCons (eBin fdivI (eUn negI (eVar 1)) (eVar 2)) aNil)))) sNil) (sRet (eTup (aCons (eBin fdivI (eVar 0) (eVar 2)) (aCons (eBin fdivI (eVar 1) (eVar 2)) aNil)))))))
def f_ratio : List D → Sto → Res D := chk 2 (runDef 3 m_ratio)
theorem fk_ratio (ev : Ev K mg base) {fd : FuncData} (F : FunD K "ratio" "ratio" (defArgs st_ratio) (defBody st_ratio) (defScope st_ratio) [] [] (He.ga K "ratio") fd) : FnOk P w K mg base (CXp P w) 3 (He.ga K "ratio") fd ["upper", "lower"] (spM K 2 f_ratio) := by
  have h : spM K 2 f_ratio = spM K 2 (runDef 3 m_ratio) := runDef_chk
  rw [h]
  exact fn_sim (N := N_ratio) F sc_ratio fun cdv A outer s H E hr => (sss_cons (ss_if (st_eq hr (se_var (pv 1)) se_int) (sss_one (ss_raise0 (k := 0) rfl (mk_DividedByZero ev) (hr.mono (by omega)) cx_takes (by simp [md_DividedByZero]))) sss_nil) (sss_cons (ss_set sc_ratio.nd (i := 2) rfl (by first | exact Or.inl rfl | exact Or.inr rfl) (se_cbG cr_gcd gc_gcd (ev.gbl "gcd") (sa_cons (se_var (pv 0)) (sa_cons (se_var (pv 1)) sa_nil)))) (sss_cons (ss_if (st_lt (se_var (pv 1)) se_int) (sss_one (ss_ret (se_tup (sa_cons (se_fdiv (se_neg (se_var (pv 0))) (se_var (pv 2))) (sa_cons (se_fdiv (se_neg (se_var (pv 1))) (se_var (pv 2))) sa_nil))))) sss_nil) (sss_one (ss_ret (se_tup (sa_cons (se_fdiv (se_var (pv 0)) (se_var (pv 2))) (sa_cons (se_fdiv (se_var (pv 1)) (se_var (pv 2))) sa_nil))))))))
theorem ok_ratio (ev : Ev K mg base) : Fn P w K mg base "ratio" 3 2 f_ratio := by
  obtain ⟨fd, F⟩ := ev.says.def_ D_ratio rfl
  exact ⟨⟨fd, ["upper", "lower"], fk_ratio ev F, (F.bindsN fun _ _ _ _ _ _ us hl => match us, hl with | [_, _], _ => rfl)⟩, ev.glo "ratio", F.kp, chk_len⟩
abbrev mdk_ratio : List (Nat × List Str × Bool) := [(0, ["lower", "upper"], true)]
theorem okk_ratio (ev : Ev K mg base) : FnK P w K mg base "ratio" 3 2 f_ratio mdk_ratio := by
  obtain ⟨fd, F⟩ := ev.says.def_ D_ratio rfl
  refine ⟨⟨fd, ["upper", "lower"], fk_ratio ev F, ?_⟩, ev.glo "ratio", F.kp, chk_len⟩
  intro md h
  simp only [mdk_ratio, List.mem_cons, List.not_mem_nil, or_false] at h
  subst h
  exact kbn F 0 ["lower", "upper"] true (fun _ _ _ _ _ _ us ws h1 h2 => match us, ws, h1, h2 with | [], [_, _], _, _ => rfl)
abbrev N_sum_of : List Str := ["one", "other"]
abbrev st_sum_of : Stmt := top 18
theorem sc_sum_of : FnScope N_sum_of ["one", "other"] (defScope st_sum_of) := ⟨rfl, rfl, rfl, by decide +kernel, rfl, by decide +kernel, by decide +kernel⟩
def m_sum_of : Sm := (sRet (eCall f_ratio (aCons (eBin addD (eBin mulI (eBin ixD (eVar 0) (eC (.int 0))) (eBin ixD (eVar 1) (eC (.int 1)))) (eBin mulI (eBin ixD (eVar 1) (eC (.int 0))) (eBin ixD (eVar 0) (eC (.int 1))))) (aCons (eBin mulI (eBin ixD (eVar 0) (eC (.int 1))) (eBin ixD (eVar 1) (eC (.int 1)))) aNil)) []))
def f_sum_of : List D → Sto → Res D := chk 2 (runDef 2 m_sum_of)
theorem fk_sum_of (ev : Ev K mg base) {fd : FuncData} (F : FunD K "sum_of" "sum_of" (defArgs st_sum_of) (defBody st_sum_of) (defScope st_sum_of) [] [] (He.ga K "sum_of") fd) : FnOk P w K mg base (CXp P w) 4 (He.ga K "sum_of") fd ["one", "other"] (spM K 2 f_sum_of) := by
  have h : spM K 2 f_sum_of = spM K 2 (runDef 2 m_sum_of) := runDef_chk
  rw [h]
  exact fn_sim (N := N_sum_of) F sc_sum_of fun cdv A outer s H E hr => (sss_one (ss_ret (se_fn (ok_ratio ev) hr (by omega) cx_takes (sa_cons (se_add (se_mul (se_ix (se_var (pv 0)) se_int) (se_ix (se_var (pv 1)) se_int)) (se_mul (se_ix (se_var (pv 1)) se_int) (se_ix (se_var (pv 0)) se_int))) (sa_cons (se_mul (se_ix (se_var (pv 0)) se_int) (se_ix (se_var (pv 1)) se_int)) sa_nil)))))
theorem ok_sum_of (ev : Ev K mg base) : Fn P w K mg base "sum_of" 4 2 f_sum_of := by
  obtain ⟨fd, F⟩ := ev.says.def_ D_sum_of rfl
  exact ⟨⟨fd, ["one", "other"], fk_sum_of ev F, (F.bindsN fun _ _ _ _ _ _ us hl => match us, hl with | [_, _], _ => rfl)⟩, ev.glo "sum_of", F.kp, chk_len⟩
abbrev mdk_sum_of : List (Nat × List Str × Bool) := [(0, ["other", "one"], true)]
theorem okk_sum_of (ev : Ev K mg base) : FnK P w K mg base "sum_of" 4 2 f_sum_of mdk_sum_of := by
  obtain ⟨fd, F⟩ := ev.says.def_ D_sum_of rfl
  refine ⟨⟨fd, ["one", "other"], fk_sum_of ev F, ?_⟩, ev.glo "sum_of", F.kp, chk_len⟩
  intro md h
  simp only [mdk_sum_of, List.mem_cons, List.not_mem_nil, or_false] at h
  subst h
  exact kbn F 0 ["other", "one"] true (fun _ _ _ _ _ _ us ws h1 h2 => match us, ws, h1, h2 with | [], [_, _], _, _ => rfl)
abbrev N_difference_of : List Str := ["one", "other"]
abbrev st_difference_of : Stmt := top 19
theorem sc_difference_of : FnScope N_difference_of ["one", "other"] (defScope st_difference_of) := ⟨rfl, rfl, rfl, by decide +kernel, rfl, by decide +kernel, by decide +kernel⟩
def m_difference_of : Sm := (sRet (eCall f_ratio (aCons (eBin subI (eBin mulI (eBin ixD (eVar 0) (eC (.int 0))) (eBin ixD (eVar 1) (eC (.int 1)))) (eBin mulI (eBin ixD (eVar 1) (eC (.int 0))) (eBin ixD (eVar 0) (eC (.int 1))))) (aCons (eBin mulI (eBin ixD (eVar 0) (eC (.int 1))) (eBin ixD (eVar 1) (eC (.int 1)))) aNil)) []))
def f_difference_of : List D → Sto → Res D := chk 2 (runDef 2 m_difference_of)
theorem fk_difference_of (ev : Ev K mg base) {fd : FuncData} (F : FunD K "difference_of" "difference_of" (defArgs st_difference_of) (defBody st_difference_of) (defScope st_difference_of) [] [] (He.ga K "difference_of") fd) : FnOk P w K mg base (CXp P w) 4 (He.ga K "difference_of") fd ["one", "other"] (spM K 2 f_difference_of) := by
  have h : spM K 2 f_difference_of = spM K 2 (runDef 2 m_difference_of) := runDef_chk
  rw [h]
  exact fn_sim (N := N_difference_of) F sc_difference_of fun cdv A outer s H E hr => (sss_one (ss_ret (se_fn (ok_ratio ev) hr (by omega) cx_takes (sa_cons (se_sub (se_mul (se_ix (se_var (pv 0)) se_int) (se_ix (se_var (pv 1)) se_int)) (se_mul (se_ix (se_var (pv 1)) se_int) (se_ix (se_var (pv 0)) se_int))) (sa_cons (se_mul (se_ix (se_var (pv 0)) se_int) (se_ix (se_var (pv 1)) se_int)) sa_nil)))))
theorem ok_difference_of (ev : Ev K mg base) : Fn P w K mg base "difference_of" 4 2 f_difference_of := by
  obtain ⟨fd, F⟩ := ev.says.def_ D_difference_of rfl
  exact ⟨⟨fd, ["one", "other"], fk_difference_of ev F, (F.bindsN fun _ _ _ _ _ _ us hl => match us, hl with | [_, _], _ => rfl)⟩, ev.glo "difference_of", F.kp, chk_len⟩
abbrev mdk_difference_of : List (Nat × List Str × Bool) := [(0, ["other", "one"], true)]
theorem okk_difference_of (ev : Ev K mg base) : FnK P w K mg base "difference_of" 4 2 f_difference_of mdk_difference_of := by
  obtain ⟨fd, F⟩ := ev.says.def_ D_difference_of rfl
  refine ⟨⟨fd, ["one", "other"], fk_difference_of ev F, ?_⟩, ev.glo "difference_of", F.kp, chk_len⟩
  intro md h
  simp only [mdk_difference_of, List.mem_cons, List.not_mem_nil, or_false] at h
  subst h
  exact kbn F 0 ["other", "one"] true (fun _ _ _ _ _ _ us ws h1 h2 => match us, ws, h1, h2 with | [], [_, _], _, _ => rfl)
abbrev N_product_of : List Str := ["one", "other"]
abbrev st_product_of : Stmt := top 20
theorem sc_product_of : FnScope N_product_of ["one", "other"] (defScope st_product_of) := ⟨rfl, rfl, rfl, by decide +kernel, rfl, by decide +kernel, by decide +kernel⟩
def m_product_of : Sm := (sRet (eCall f_ratio (aCons (eBin mulI (eBin ixD (eVar 0) (eC (.int 0))) (eBin ixD (eVar 1) (eC (.int 0)))) (aCons (eBin mulI (eBin ixD (eVar 0) (eC (.int 1))) (eBin ixD (eVar 1) (eC (.int 1)))) aNil)) []))
def f_product_of : List D → Sto → Res D := chk 2 (runDef 2 m_product_of)
theorem fk_product_of (ev : Ev K mg base) {fd : FuncData} (F : FunD K "product_of" "product_of" (defArgs st_product_of) (defBody st_product_of) (defScope st_product_of) [] [] (He.ga K "product_of") fd) : FnOk P w K mg base (CXp P w) 4 (He.ga K "product_of") fd ["one", "other"] (spM K 2 f_product_of) := by
  have h : spM K 2 f_product_of = spM K 2 (runDef 2 m_product_of) := runDef_chk
  rw [h]
  exact fn_sim (N := N_product_of) F sc_product_of fun cdv A outer s H E hr => (sss_one (ss_ret (se_fn (ok_ratio ev) hr (by omega) cx_takes (sa_cons (se_mul (se_ix (se_var (pv 0)) se_int) (se_ix (se_var (pv 1)) se_int)) (sa_cons (se_mul (se_ix (se_var (pv 0)) se_int) (se_ix (se_var (pv 1)) se_int)) sa_nil)))))
theorem ok_product_of (ev : Ev K mg base) : Fn P w K mg base "product_of" 4 2 f_product_of := by
  obtain ⟨fd, F⟩ := ev.says.def_ D_product_of rfl
  exact ⟨⟨fd, ["one", "other"], fk_product_of ev F, (F.bindsN fun _ _ _ _ _ _ us hl => match us, hl with | [_, _], _ => rfl)⟩, ev.glo "product_of", F.kp, chk_len⟩
abbrev mdk_product_of : List (Nat × List Str × Bool) := [(1, ["other"], false)]
theorem okk_product_of (ev : Ev K mg base) : FnK P w K mg base "product_of" 4 2 f_product_of mdk_product_of := by
  obtain ⟨fd, F⟩ := ev.says.def_ D_product_of rfl
  refine ⟨⟨fd, ["one", "other"], fk_product_of ev F, ?_⟩, ev.glo "product_of", F.kp, chk_len⟩
  intro md h
  simp only [mdk_product_of, List.mem_cons, List.not_mem_nil, or_false] at h
  subst h
  exact kbn F 1 ["other"] false (fun _ _ _ _ _ _ us ws h1 h2 => match us, ws, h1, h2 with | [_], [_], _, _ => rfl)
abbrev N_quotient_of : List Str := ["one", "other"]
abbrev st_quotient_of : Stmt := top 21
theorem sc_quotient_of : FnScope N_quotient_of ["one", "other"] (defScope st_quotient_of) := ⟨rfl, rfl, rfl, by decide +kernel, rfl, by decide +kernel, by decide +kernel⟩
def m_quotient_of : Sm := (sRet (eCall f_ratio (aCons (eBin mulI (eBin ixD (eVar 0) (eC (.int 0))) (eBin ixD (eVar 1) (eC (.int 1)))) (aCons (eBin mulI (eBin ixD (eVar 0) (eC (.int 1))) (eBin ixD (eVar 1) (eC (.int 0)))) aNil)) []))
def f_quotient_of : List D → Sto → Res D := chk 2 (runDef 2 m_quotient_of)
theorem fk_quotient_of (ev : Ev K mg base) {fd : FuncData} (F : FunD K "quotient_of" "quotient_of" (defArgs st_quotient_of) (defBody st_quotient_of) (defScope st_quotient_of) [] [] (He.ga K "quotient_of") fd) : FnOk P w K mg base (CXp P w) 4 (He.ga K "quotient_of") fd ["one", "other"] (spM K 2 f_quotient_of) := by
  have h : spM K 2 f_quotient_of = spM K 2 (runDef 2 m_quotient_of) := runDef_chk
  rw [h]
  exact fn_sim (N := N_quotient_of) F sc_quotient_of fun cdv A outer s H E hr => (sss_one (ss_ret (se_fn (ok_ratio ev) hr (by omega) cx_takes (sa_cons (se_mul (se_ix (se_var (pv 0)) se_int) (se_ix (se_var (pv 1)) se_int)) (sa_cons (se_mul (se_ix (se_var (pv 0)) se_int) (se_ix (se_var (pv 1)) se_int)) sa_nil)))))
theorem ok_quotient_of (ev : Ev K mg base) : Fn P w K mg base "quotient_of" 4 2 f_quotient_of := by
  obtain ⟨fd, F⟩ := ev.says.def_ D_quotient_of rfl
  exact ⟨⟨fd, ["one", "other"], fk_quotient_of ev F, (F.bindsN fun _ _ _ _ _ _ us hl => match us, hl with | [_, _], _ => rfl)⟩, ev.glo "quotient_of", F.kp, chk_len⟩
abbrev mdk_quotient_of : List (Nat × List Str × Bool) := [(0, ["other", "one"], true)]
theorem okk_quotient_of (ev : Ev K mg base) : FnK P w K mg base "quotient_of" 4 2 f_quotient_of mdk_quotient_of := by
  obtain ⟨fd, F⟩ := ev.says.def_ D_quotient_of rfl
  refine ⟨⟨fd, ["one", "other"], fk_quotient_of ev F, ?_⟩, ev.glo "quotient_of", F.kp, chk_len⟩
  intro md h
  simp only [mdk_quotient_of, List.mem_cons, List.not_mem_nil, or_false] at h
  subst h
  exact kbn F 0 ["other", "one"] true (fun _ _ _ _ _ _ us ws h1 h2 => match us, ws, h1, h2 with | [], [_, _], _, _ => rfl)
abbrev N__whole_power : List Str := ["value", "n", "result", "_"]
abbrev st__whole_power : Stmt := top 23
theorem sc__whole_power : FnScope N__whole_power ["value", "n"] (defScope st__whole_power) := ⟨rfl, rfl, rfl, by decide +kernel, rfl, by decide +kernel, by decide +kernel⟩
def m__whole_power : Sm := (sSeq (sSet 2 (eC (.int 1))) (sSeq (sFor (iRange1 (aCons (eVar 1) aNil)) (gN 3) (sSet 2 (eBin mulI (eVar 2) (eVar 0)))) (sRet (eVar 2))))
def f__whole_power : List D → Sto → Res D := chk 2 (runDef 4 m__whole_power)
theorem fk__whole_power (ev : Ev K mg base) {fd : FuncData} (F : FunD K "_whole_power" "_whole_power" (defArgs st__whole_power) (defBody st__whole_power) (defScope st__whole_power) [] [] (He.ga K "_whole_power") fd) : FnOk P w K mg base (CXp P w) 1 (He.ga K "_whole_power") fd ["value", "n"] (spM K 2 f__whole_power) := by
  have h : spM K 2 f__whole_power = spM K 2 (runDef 4 m__whole_power) := runDef_chk
  rw [h]
  exact fn_sim (N := N__whole_power) F sc__whole_power fun cdv A outer s H E hr => (sss_cons (ss_set sc__whole_power.nd (i := 2) rfl (by first | exact Or.inl rfl | exact Or.inr rfl) se_int) (sss_cons (ss_for cx_own rfl (si_range1 (ev.free "range") (sa_cons (se_var (pv 1)) sa_nil)) (sg_name (i := 3) sc__whole_power.nd rfl (by first | exact Or.inl rfl | exact Or.inr rfl)) (sss_one (ss_set sc__whole_power.nd (i := 2) rfl (by first | exact Or.inl rfl | exact Or.inr rfl) (se_mul (se_var (pv 2)) (se_var (pv 0)))))) (sss_one (ss_ret (se_var (pv 2))))))
theorem ok__whole_power (ev : Ev K mg base) : Fn P w K mg base "_whole_power" 1 2 f__whole_power := by
  obtain ⟨fd, F⟩ := ev.says.def_ D__whole_power rfl
  exact ⟨⟨fd, ["value", "n"], fk__whole_power ev F, (F.bindsN fun _ _ _ _ _ _ us hl => match us, hl with | [_, _], _ => rfl)⟩, ev.glo "_whole_power", F.kp, chk_len⟩
abbrev N_power_of : List Str := ["value", "n"]
abbrev st_power_of : Stmt := top 22
theorem sc_power_of : FnScope N_power_of ["value", "n"] (defScope st_power_of) := ⟨rfl, rfl, rfl, by decide +kernel, rfl, by decide +kernel, by decide +kernel⟩
def m_power_of : Sm := (sSeq (sIf (tOr (tNot (tOf (eUn (isiD (isB "int" clsL)) (eVar 1)))) (tOr (tOf (eUn (isiD (isB "bool" clsL)) (eVar 1))) (tNot (tOf (eChain leI leI (eUn negI (eC (.int 64))) (eVar 1) (eC (.int 64))))))) (sRaise "InvalidPower" tp_InvalidPower 1 (aCons (eVar 1) aNil)) sNil) (sSeq (sIf (tOf (eBin ltI (eVar 1) (eC (.int 0)))) (sRet (eCall f_ratio (aCons (eCall f__whole_power (aCons (eBin ixD (eVar 0) (eC (.int 1))) (aCons (eUn negI (eVar 1)) aNil)) []) (aCons (eCall f__whole_power (aCons (eBin ixD (eVar 0) (eC (.int 0))) (aCons (eUn negI (eVar 1)) aNil)) []) aNil)) [])) sNil) (sRet (eTup (aCons (eCall f__whole_power (aCons (eBin ixD (eVar 0) (eC (.int 0))) (aCons (eVar 1) aNil)) []) (aCons (eCall f__whole_power (aCons (eBin ixD (eVar 0) (eC (.int 1))) (aCons (eVar 1) aNil)) []) aNil))))))
def f_power_of : List D → Sto → Res D := chk 2 (runDef 2 m_power_of)
theorem fk_power_of (ev : Ev K mg base) {fd : FuncData} (F : FunD K "power_of" "power_of" (defArgs st_power_of) (defBody st_power_of) (defScope st_power_of) [] [] (He.ga K "power_of") fd) : FnOk P w K mg base (CXp P w) 4 (He.ga K "power_of") fd ["value", "n"] (spM K 2 f_power_of) := by
  have h : spM K 2 f_power_of = spM K 2 (runDef 2 m_power_of) := runDef_chk
  rw [h]
  exact fn_sim (N := N_power_of) F sc_power_of fun cdv A outer s H E hr => (sss_cons (ss_if (st_sw (sw_or (st_not (st_val (se_isi (ev.free "isinstance") (se_var (pv 1)) (cls_ty (ev.free "int")) (isB_ok (by decide) (ev.nocs (by decide)))))) (sw_or (st_val (se_isi (ev.free "isinstance") (se_var (pv 1)) (cls_ty (ev.free "bool")) (isB_ok (by decide) (ev.nocs (by decide))))) (sw_or1 (st_not (st_chain op_le op_le gop_le gop_le (se_neg se_int) (se_var (pv 1)) se_int)))))) (sss_one (ss_raise (k := 0) rfl (mk_InvalidPower ev) (hr.mono (by omega)) cx_takes (sa_cons (se_var (pv 1)) sa_nil) (by simp [md_InvalidPower]))) sss_nil) (sss_cons (ss_if (st_lt (se_var (pv 1)) se_int) (sss_one (ss_ret (se_fn (ok_ratio ev) hr (by omega) cx_takes (sa_cons (se_fn (ok__whole_power ev) hr (by omega) cx_takes (sa_cons (se_ix (se_var (pv 0)) se_int) (sa_cons (se_neg (se_var (pv 1))) sa_nil))) (sa_cons (se_fn (ok__whole_power ev) hr (by omega) cx_takes (sa_cons (se_ix (se_var (pv 0)) se_int) (sa_cons (se_neg (se_var (pv 1))) sa_nil))) sa_nil))))) sss_nil) (sss_one (ss_ret (se_tup (sa_cons (se_fn (ok__whole_power ev) hr (by omega) cx_takes (sa_cons (se_ix (se_var (pv 0)) se_int) (sa_cons (se_var (pv 1)) sa_nil))) (sa_cons (se_fn (ok__whole_power ev) hr (by omega) cx_takes (sa_cons (se_ix (se_var (pv 0)) se_int) (sa_cons (se_var (pv 1)) sa_nil))) sa_nil)))))))
theorem ok_power_of (ev : Ev K mg base) : Fn P w K mg base "power_of" 4 2 f_power_of := by
  obtain ⟨fd, F⟩ := ev.says.def_ D_power_of rfl
  exact ⟨⟨fd, ["value", "n"], fk_power_of ev F, (F.bindsN fun _ _ _ _ _ _ us hl => match us, hl with | [_, _], _ => rfl)⟩, ev.glo "power_of", F.kp, chk_len⟩
abbrev mdk_power_of : List (Nat × List Str × Bool) := [(0, ["n", "value"], true)]
theorem okk_power_of (ev : Ev K mg base) : FnK P w K mg base "power_of" 4 2 f_power_of mdk_power_of := by
  obtain ⟨fd, F⟩ := ev.says.def_ D_power_of rfl
  refine ⟨⟨fd, ["value", "n"], fk_power_of ev F, ?_⟩, ev.glo "power_of", F.kp, chk_len⟩
  intro md h
  simp only [mdk_power_of, List.mem_cons, List.not_mem_nil, or_false] at h
  subst h
  exact kbn F 0 ["n", "value"] true (fun _ _ _ _ _ _ us ws h1 h2 => match us, ws, h1, h2 with | [], [_, _], _, _ => rfl)
abbrev N_is_below : List Str := ["one", "other"]
abbrev st_is_below : Stmt := top 24
theorem sc_is_below : FnScope N_is_below ["one", "other"] (defScope st_is_below) := ⟨rfl, rfl, rfl, by decide +kernel, rfl, by decide +kernel, by decide +kernel⟩
def m_is_below : Sm := (sRet (eBin ltI (eBin mulI (eBin ixD (eVar 0) (eC (.int 0))) (eBin ixD (eVar 1) (eC (.int 1)))) (eBin mulI (eBin ixD (eVar 1) (eC (.int 0))) (eBin ixD (eVar 0) (eC (.int 1))))))
def f_is_below : List D → Sto → Res D := chk 2 (runDef 2 m_is_below)
theorem fk_is_below (ev : Ev K mg base) {fd : FuncData} (F : FunD K "is_below" "is_below" (defArgs st_is_below) (defBody st_is_below) (defScope st_is_below) [] [] (He.ga K "is_below") fd) : FnOk P w K mg base (CXp P w) 1 (He.ga K "is_below") fd ["one", "other"] (spM K 2 f_is_below) := by
  have h : spM K 2 f_is_below = spM K 2 (runDef 2 m_is_below) := runDef_chk
  rw [h]
  exact fn_sim (N := N_is_below) F sc_is_below fun cdv A outer s H E hr => (sss_one (ss_ret (se_lt (se_mul (se_ix (se_var (pv 0)) se_int) (se_ix (se_var (pv 1)) se_int)) (se_mul (se_ix (se_var (pv 1)) se_int) (se_ix (se_var (pv 0)) se_int)))))
theorem ok_is_below (ev : Ev K mg base) : Fn P w K mg base "is_below" 1 2 f_is_below := by
  obtain ⟨fd, F⟩ := ev.says.def_ D_is_below rfl
  exact ⟨⟨fd, ["one", "other"], fk_is_below ev F, (F.bindsN fun _ _ _ _ _ _ us hl => match us, hl with | [_, _], _ => rfl)⟩, ev.glo "is_below", F.kp, chk_len⟩
abbrev mdk_is_below : List (Nat × List Str × Bool) := [(0, ["other", "one"], true)]
theorem okk_is_below (ev : Ev K mg base) : FnK P w K mg base "is_below" 1 2 f_is_below mdk_is_below := by
  obtain ⟨fd, F⟩ := ev.says.def_ D_is_below rfl
  refine ⟨⟨fd, ["one", "other"], fk_is_below ev F, ?_⟩, ev.glo "is_below", F.kp, chk_len⟩
  intro md h
  simp only [mdk_is_below, List.mem_cons, List.not_mem_nil, or_false] at h
  subst h
  exact kbn F 0 ["other", "one"] true (fun _ _ _ _ _ _ us ws h1 h2 => match us, ws, h1, h2 with | [], [_, _], _, _ => rfl)
abbrev N_is_whole : List Str := ["value"]
abbrev st_is_whole : Stmt := top 29
theorem sc_is_whole : FnScope N_is_whole ["value"] (defScope st_is_whole) := ⟨rfl, rfl, rfl, by decide +kernel, rfl, by decide +kernel, by decide +kernel⟩
def m_is_whole : Sm := (sRet (eAnd (eUn (isiD (isB "int" clsL)) (eVar 0)) (eNot (eUn (isiD (isB "bool" clsL)) (eVar 0)))))
def f_is_whole : List D → Sto → Res D := chk 1 (runDef 1 m_is_whole)
theorem fk_is_whole (ev : Ev K mg base) {fd : FuncData} (F : FunD K "is_whole" "is_whole" (defArgs st_is_whole) (defBody st_is_whole) (defScope st_is_whole) [] [] (He.ga K "is_whole") fd) : FnOk P w K mg base (CXp P w) 1 (He.ga K "is_whole") fd ["value"] (spM K 1 f_is_whole) := by
  have h : spM K 1 f_is_whole = spM K 1 (runDef 1 m_is_whole) := runDef_chk
  rw [h]
  exact fn_sim (N := N_is_whole) F sc_is_whole fun cdv A outer s H E hr => (sss_one (ss_ret (se_and (se_isi (ev.free "isinstance") (se_var (pv 0)) (cls_ty (ev.free "int")) (isB_ok (by decide) (ev.nocs (by decide)))) (se_one (se_not (se_isi (ev.free "isinstance") (se_var (pv 0)) (cls_ty (ev.free "bool")) (isB_ok (by decide) (ev.nocs (by decide)))))))))
theorem ok_is_whole (ev : Ev K mg base) : Fn P w K mg base "is_whole" 1 1 f_is_whole := by
  obtain ⟨fd, F⟩ := ev.says.def_ D_is_whole rfl
  exact ⟨⟨fd, ["value"], fk_is_whole ev F, (F.bindsN fun _ _ _ _ _ _ us hl => match us, hl with | [_], _ => rfl)⟩, ev.glo "is_whole", F.kp, chk_len⟩
abbrev N_is_order : List Str := ["value"]
abbrev st_is_order : Stmt := top 30
theorem sc_is_order : FnScope N_is_order ["value"] (defScope st_is_order) := ⟨rfl, rfl, rfl, by decide +kernel, rfl, by decide +kernel, by decide +kernel⟩
def m_is_order : Sm := (sRet (eAnd (eCall f_is_whole (aCons (eVar 0) aNil) []) (eChain leI leI (eC (.int 2)) (eVar 0) (eC (.int 24)))))
def f_is_order : List D → Sto → Res D := chk 1 (runDef 1 m_is_order)
theorem fk_is_order (ev : Ev K mg base) {fd : FuncData} (F : FunD K "is_order" "is_order" (defArgs st_is_order) (defBody st_is_order) (defScope st_is_order) [] [] (He.ga K "is_order") fd) : FnOk P w K mg base (CXp P w) 2 (He.ga K "is_order") fd ["value"] (spM K 1 f_is_order) := by
  have h : spM K 1 f_is_order = spM K 1 (runDef 1 m_is_order) := runDef_chk
  rw [h]
  exact fn_sim (N := N_is_order) F sc_is_order fun cdv A outer s H E hr => (sss_one (ss_ret (se_and (se_fn (ok_is_whole ev) hr (by omega) cx_takes (sa_cons (se_var (pv 0)) sa_nil)) (se_one (se_chain op_le op_le gop_le gop_le se_int (se_var (pv 0)) se_int)))))
theorem ok_is_order (ev : Ev K mg base) : Fn P w K mg base "is_order" 2 1 f_is_order := by
  obtain ⟨fd, F⟩ := ev.says.def_ D_is_order rfl
  exact ⟨⟨fd, ["value"], fk_is_order ev F, (F.bindsN fun _ _ _ _ _ _ us hl => match us, hl with | [_], _ => rfl)⟩, ev.glo "is_order", F.kp, chk_len⟩
abbrev N_first_no_fraction : List Str := ["values", "at", "value"]
abbrev st_first_no_fraction : Stmt := top 31
theorem sc_first_no_fraction : FnScope N_first_no_fraction ["values"] (defScope st_first_no_fraction) := ⟨rfl, rfl, rfl, by decide +kernel, rfl, by decide +kernel, by decide +kernel⟩
def m_first_no_fraction : Sm := (sSeq (sFor (iEnumM (aCons (eVar 0) aNil)) (gT 2 (gsCons (gN 1) (gsCons (gN 2) gsNil))) (sIf (tNot (tOf (eCall f_is_fraction (aCons (eVar 2) aNil) []))) (sRet (eVar 1)) sNil)) (sRet (eC .non)))
def f_first_no_fraction : List D → Sto → Res D := chk 1 (runDef 3 m_first_no_fraction)
theorem fk_first_no_fraction (ev : Ev K mg base) {fd : FuncData} (F : FunD K "first_no_fraction" "first_no_fraction" (defArgs st_first_no_fraction) (defBody st_first_no_fraction) (defScope st_first_no_fraction) [] [] (He.ga K "first_no_fraction") fd) : FnOk P w K mg base (CXp P w) 2 (He.ga K "first_no_fraction") fd ["values"] (spM K 1 f_first_no_fraction) := by
  have h : spM K 1 f_first_no_fraction = spM K 1 (runDef 3 m_first_no_fraction) := runDef_chk
  rw [h]
  exact fn_sim (N := N_first_no_fraction) F sc_first_no_fraction fun cdv A outer s H E hr => (sss_cons (ss_for cx_own rfl (si_enum (ev.free "enumerate") (sa_cons (se_var (pv 0)) sa_nil)) (sg_tup rfl (sgs_cons (sg_name (i := 1) sc_first_no_fraction.nd rfl (by first | exact Or.inl rfl | exact Or.inr rfl)) (sgs_cons (sg_name (i := 2) sc_first_no_fraction.nd rfl (by first | exact Or.inl rfl | exact Or.inr rfl)) sgs_nil))) (sss_one (ss_if (st_not (st_val (se_fn (ok_is_fraction ev) hr (by omega) cx_takes (sa_cons (se_var (pv 2)) sa_nil)))) (sss_one (ss_ret (se_var (pv 1)))) sss_nil))) (sss_one (ss_ret se_non)))
theorem ok_first_no_fraction (ev : Ev K mg base) : Fn P w K mg base "first_no_fraction" 2 1 f_first_no_fraction := by
  obtain ⟨fd, F⟩ := ev.says.def_ D_first_no_fraction rfl
  exact ⟨⟨fd, ["values"], fk_first_no_fraction ev F, (F.bindsN fun _ _ _ _ _ _ us hl => match us, hl with | [_], _ => rfl)⟩, ev.glo "first_no_fraction", F.kp, chk_len⟩
abbrev N_check_numbers : List Str := ["numbers", "ahead", "at"]
abbrev st_check_numbers : Stmt := top 32
theorem sc_check_numbers : FnScope N_check_numbers ["numbers", "ahead"] (defScope st_check_numbers) := ⟨rfl, rfl, rfl, by decide +kernel, rfl, by decide +kernel, by decide +kernel⟩
def m_check_numbers : Sm := (sSeq (sIf (tNot (tOf (eUn (isiD (isB2 "list" "tuple" clsL)) (eVar 0)))) mBad sNil) (sSeq (sIf (tNot (tOf (eCall f_is_order (aCons (eBin addD (eCB lenD (aCons (eVar 0) aNil)) (eVar 1)) aNil) []))) mBad sNil) (sSeq (sSet 2 (eCall f_first_no_fraction (aCons (eVar 0) aNil) [])) (sIf (tOf (eBin notN (eVar 2) (eC .non))) mBad sNil))))
def f_check_numbers : List D → Sto → Res D := chk 2 (runDef 3 m_check_numbers)
theorem fk_check_numbers (ev : Ev K mg base) {fd : FuncData} (F : FunD K "check_numbers" "check_numbers" (defArgs st_check_numbers) (defBody st_check_numbers) (defScope st_check_numbers) [] [] (He.ga K "check_numbers") fd) : FnOk P w K mg base (CXp P w) 3 (He.ga K "check_numbers") fd ["numbers", "ahead"] (spM K 2 f_check_numbers) := by
  have h : spM K 2 f_check_numbers = spM K 2 (runDef 3 m_check_numbers) := runDef_chk
  rw [h]
  exact fn_sim (N := N_check_numbers) F sc_check_numbers fun cdv A outer s H E hr => (sss_cons (ss_if (st_not (st_val (se_isi2 (ev.free "isinstance") (se_var (pv 0)) (cls_ty (ev.free "list")) (cls_ty (ev.free "tuple")) (isB2_ok (by decide) (by decide) (ev.nocs (by decide)) (ev.nocs (by decide)))))) (sss_one ss_bad) sss_nil) (sss_cons (ss_if (st_not (st_val (se_fn (ok_is_order ev) hr (by omega) cx_takes (sa_cons (se_add (se_cb call_len gc_len (ev.free "len") (sa_cons (se_var (pv 0)) sa_nil)) (se_var (pv 1))) sa_nil)))) (sss_one ss_bad) sss_nil) (sss_cons (ss_set sc_check_numbers.nd (i := 2) rfl (by first | exact Or.inl rfl | exact Or.inr rfl) (se_fn (ok_first_no_fraction ev) hr (by omega) cx_takes (sa_cons (se_var (pv 0)) sa_nil))) (sss_one (ss_if (st_notN (se_var (pv 2)) se_non) (sss_one ss_bad) sss_nil)))))
theorem ok_check_numbers (ev : Ev K mg base) : Fn P w K mg base "check_numbers" 3 2 f_check_numbers := by
  obtain ⟨fd, F⟩ := ev.says.def_ D_check_numbers rfl
  exact ⟨⟨fd, ["numbers", "ahead"], fk_check_numbers ev F, (F.bindsN fun _ _ _ _ _ _ us hl => match us, hl with | [_, _], _ => rfl)⟩, ev.glo "check_numbers", F.kp, chk_len⟩
abbrev N_least_place : List Str := ["numbers", "place", "value"]
abbrev st_least_place : Stmt := top 35
theorem sc_least_place : FnScope N_least_place ["numbers"] (defScope st_least_place) := ⟨rfl, rfl, rfl, by decide +kernel, rfl, by decide +kernel, by decide +kernel⟩
def m_least_place : Sm := (sSeq (sFor (iEnumM (aCons (eVar 0) aNil)) (gT 2 (gsCons (gN 1) (gsCons (gN 2) gsNil))) (sIf (tOf (eBin neD (eBin ixD (eVar 2) (eC (.int 0))) (eC (.int 0)))) (sRet (eVar 1)) sNil)) (sRet (eC .non)))
def f_least_place : List D → Sto → Res D := chk 1 (runDef 3 m_least_place)
theorem fk_least_place (ev : Ev K mg base) {fd : FuncData} (F : FunD K "least_place" "least_place" (defArgs st_least_place) (defBody st_least_place) (defScope st_least_place) [] [] (He.ga K "least_place") fd) : FnOk P w K mg base (CXp P w) 1 (He.ga K "least_place") fd ["numbers"] (spM K 1 f_least_place) := by
  have h : spM K 1 f_least_place = spM K 1 (runDef 3 m_least_place) := runDef_chk
  rw [h]
  exact fn_sim (N := N_least_place) F sc_least_place fun cdv A outer s H E hr => (sss_cons (ss_for cx_own rfl (si_enum (ev.free "enumerate") (sa_cons (se_var (pv 0)) sa_nil)) (sg_tup rfl (sgs_cons (sg_name (i := 1) sc_least_place.nd rfl (by first | exact Or.inl rfl | exact Or.inr rfl)) (sgs_cons (sg_name (i := 2) sc_least_place.nd rfl (by first | exact Or.inl rfl | exact Or.inr rfl)) sgs_nil))) (sss_one (ss_if (st_ne hr (se_ix (se_var (pv 2)) se_int) se_int) (sss_one (ss_ret (se_var (pv 1)))) sss_nil))) (sss_one (ss_ret se_non)))
theorem ok_least_place (ev : Ev K mg base) : Fn P w K mg base "least_place" 1 1 f_least_place := by
  obtain ⟨fd, F⟩ := ev.says.def_ D_least_place rfl
  exact ⟨⟨fd, ["numbers"], fk_least_place ev F, (F.bindsN fun _ _ _ _ _ _ us hl => match us, hl with | [_], _ => rfl)⟩, ev.glo "least_place", F.kp, chk_len⟩
abbrev N_unit_line : List Str := ["at", "size", "place"]
abbrev st_unit_line : Stmt := top 36
theorem sc_unit_line : FnScope N_unit_line ["at", "size"] (defScope st_unit_line) := ⟨rfl, rfl, rfl, by decide +kernel, rfl, by decide +kernel, by decide +kernel⟩
def m_unit_line : Sm := (sRet (eComp false [2] (iRange1 (aCons (eVar 1) aNil)) (gN 2) tTrue (eIf (tOf (eBin eqD (eVar 2) (eVar 0))) (eC (.tup [.int 1, .int 1])) (eC (.tup [.int 0, .int 1])))))
def f_unit_line : List D → Sto → Res D := chk 2 (runDef 3 m_unit_line)
theorem fk_unit_line (ev : Ev K mg base) {fd : FuncData} (F : FunD K "unit_line" "unit_line" (defArgs st_unit_line) (defBody st_unit_line) (defScope st_unit_line) [] [] (He.ga K "unit_line") fd) : FnOk P w K mg base (CXp P w) 1 (He.ga K "unit_line") fd ["at", "size"] (spM K 2 f_unit_line) := by
  have h : spM K 2 f_unit_line = spM K 2 (runDef 3 m_unit_line) := runDef_chk
  rw [h]
  exact fn_sim (N := N_unit_line) F sc_unit_line fun cdv A outer s H E hr => (sss_one (ss_ret (se_comp (k := false) (own := [("place", 2)]) rfl sc_unit_line.nd (si_range1 (ev.free "range") (sa_cons (se_var (pv 1)) sa_nil)) (blkOk_by (N := N_unit_line) (sc := defScope st_unit_line) (own := [("place", 2)]) (by decide +kernel)) (fun _ _ _ _ _ => (pg_name (i := 2) sc_unit_line.nd rfl (Or.inl rfl))) (grel_name (i := 2) (by decide)) (fun _ _ _ _ _ => (se_if (st_eq hr (se_var (pv 2)) (se_var (pv 0))) (se_glob (ev.glo "ONE") (fun w _ => rep_ktup (ns := [1, 1]) (ev.tup (e := ("ONE", [1, 1])) (by decide +kernel)) w)) (se_glob (ev.glo "ZERO") (fun w _ => rep_ktup (ns := [0, 1]) (ev.tup (e := ("ZERO", [0, 1])) (by decide +kernel)) w)))))))
theorem ok_unit_line (ev : Ev K mg base) : Fn P w K mg base "unit_line" 1 2 f_unit_line := by
  obtain ⟨fd, F⟩ := ev.says.def_ D_unit_line rfl
  exact ⟨⟨fd, ["at", "size"], fk_unit_line ev F, (F.bindsN fun _ _ _ _ _ _ us hl => match us, hl with | [_, _], _ => rfl)⟩, ev.glo "unit_line", F.kp, chk_len⟩
abbrev N__bend_of : List Str := ["numbers", "place"]
abbrev st__bend_of : Stmt := top 56
theorem sc__bend_of : FnScope N__bend_of ["numbers"] (defScope st__bend_of) := ⟨rfl, rfl, rfl, by decide +kernel, rfl, by decide +kernel, by decide +kernel⟩
def m__bend_of : Sm := (sSeq (sSet 1 (eCall f_least_place (aCons (eSl false (eVar 0) (pSome (eC (.int 2))) pNone) aNil) [])) (sRet (eIf (tOf (eBin isN (eVar 1) (eC .non))) (eC .non) (eBin addD (eVar 1) (eC (.int 2))))))
def f__bend_of : List D → Sto → Res D := chk 1 (runDef 2 m__bend_of)
theorem fk__bend_of (ev : Ev K mg base) {fd : FuncData} (F : FunD K "_bend_of" "_bend_of" (defArgs st__bend_of) (defBody st__bend_of) (defScope st__bend_of) [] [] (He.ga K "_bend_of") fd) : FnOk P w K mg base (CXp P w) 2 (He.ga K "_bend_of") fd ["numbers"] (spM K 1 f__bend_of) := by
  have h : spM K 1 f__bend_of = spM K 1 (runDef 2 m__bend_of) := runDef_chk
  rw [h]
  exact fn_sim (N := N__bend_of) F sc__bend_of fun cdv A outer s H E hr => (sss_cons (ss_set sc__bend_of.nd (i := 1) rfl (by first | exact Or.inl rfl | exact Or.inr rfl) (se_fn (ok_least_place ev) hr (by omega) cx_takes (sa_cons (se_sl (k := false) (se_var (pv 0)) (sp_some se_int) sp_none) sa_nil))) (sss_one (ss_ret (se_if (st_isN (se_var (pv 1)) se_non) se_non (se_add (se_var (pv 1)) se_int)))))
theorem ok__bend_of (ev : Ev K mg base) : Fn P w K mg base "_bend_of" 2 1 f__bend_of := by
  obtain ⟨fd, F⟩ := ev.says.def_ D__bend_of rfl
  exact ⟨⟨fd, ["numbers"], fk__bend_of ev F, (F.bindsN fun _ _ _ _ _ _ us hl => match us, hl with | [_], _ => rfl)⟩, ev.glo "_bend_of", F.kp, chk_len⟩
abbrev N__kind_of : List Str := ["numbers", "lead"]
abbrev st__kind_of : Stmt := top 57
theorem sc__kind_of : FnScope N__kind_of ["numbers"] (defScope st__kind_of) := ⟨rfl, rfl, rfl, by decide +kernel, rfl, by decide +kernel, by decide +kernel⟩
def m__kind_of : Sm := (sSeq (sSet 1 (eBin ixD (eVar 0) (eC (.int 1)))) (sSeq (sIf (tOf (eBin eqD (eVar 1) (eC (.tup [.int 0, .int 1])))) (sRet (eIf (tOf (eBin isN (eCall f_least_place (aCons (eVar 0) aNil) []) (eC .non))) (eC (.str "nothing")) (eC (.str "crush")))) sNil) (sSeq (sIf (tOf (eBin eqD (eVar 1) (eC (.tup [.int 1, .int 1])))) (sRet (eIf (tOf (eBin isN (eCall f__bend_of (aCons (eVar 0) aNil) []) (eC .non))) (eC (.str "still")) (eC (.str "creep")))) sNil) (sRet (eIf (tOf (eBin eqD (eVar 1) (eTup (aCons (eUn negI (eC (.int 1))) (aCons (eC (.int 1)) aNil))))) (eC (.str "flip")) (eC (.str "stretch")))))))
def f__kind_of : List D → Sto → Res D := chk 1 (runDef 2 m__kind_of)
theorem fk__kind_of (ev : Ev K mg base) {fd : FuncData} (F : FunD K "_kind_of" "_kind_of" (defArgs st__kind_of) (defBody st__kind_of) (defScope st__kind_of) [] [] (He.ga K "_kind_of") fd) : FnOk P w K mg base (CXp P w) 3 (He.ga K "_kind_of") fd ["numbers"] (spM K 1 f__kind_of) := by
  have h : spM K 1 f__kind_of = spM K 1 (runDef 2 m__kind_of) := runDef_chk
  rw [h]
  exact fn_sim (N := N__kind_of) F sc__kind_of fun cdv A outer s H E hr => (sss_cons (ss_set sc__kind_of.nd (i := 1) rfl (by first | exact Or.inl rfl | exact Or.inr rfl) (se_ix (se_var (pv 0)) se_int)) (sss_cons (ss_if (st_eq hr (se_var (pv 1)) (se_glob (ev.glo "ZERO") (fun w _ => rep_ktup (ns := [0, 1]) (ev.tup (e := ("ZERO", [0, 1])) (by decide +kernel)) w))) (sss_one (ss_ret (se_if (st_isN (se_fn (ok_least_place ev) hr (by omega) cx_takes (sa_cons (se_var (pv 0)) sa_nil)) se_non) se_str se_str))) sss_nil) (sss_cons (ss_if (st_eq hr (se_var (pv 1)) (se_glob (ev.glo "ONE") (fun w _ => rep_ktup (ns := [1, 1]) (ev.tup (e := ("ONE", [1, 1])) (by decide +kernel)) w))) (sss_one (ss_ret (se_if (st_isN (se_fn (ok__bend_of ev) hr (by omega) cx_takes (sa_cons (se_var (pv 0)) sa_nil)) se_non) se_str se_str))) sss_nil) (sss_one (ss_ret (se_if (st_eq hr (se_var (pv 1)) (se_tup (sa_cons (se_neg se_int) (sa_cons se_int sa_nil)))) se_str se_str))))))
theorem ok__kind_of (ev : Ev K mg base) : Fn P w K mg base "_kind_of" 3 1 f__kind_of := by
  obtain ⟨fd, F⟩ := ev.says.def_ D__kind_of rfl
  exact ⟨⟨fd, ["numbers"], fk__kind_of ev F, (F.bindsN fun _ _ _ _ _ _ us hl => match us, hl with | [_], _ => rfl)⟩, ev.glo "_kind_of", F.kp, chk_len⟩
theorem inf_Row (ev : Ev K mg base) : InF K "Row" ["_numbers", "order", "height"] := ev.inf (e := ("Row", ["_numbers", "order", "height"])) (by decide +kernel)
abbrev N_Row___init__ : List Str := ["self", "numbers"]
abbrev st_Row___init__ : Stmt := inCls (top 53) 0
theorem sc_Row___init__ : FnScope N_Row___init__ ["self", "numbers"] (defScope st_Row___init__) := ⟨rfl, rfl, rfl, by decide +kernel, rfl, by decide +kernel, by decide +kernel⟩
def m_Row___init__ : Sm := (sSeq (sExpr (eCall f_check_numbers (aCons (eVar 1) (aCons (eUn negI (eC (.int 1))) aNil)) [])) (sSeq (sFldM ["Row"] "_numbers" (eCB (listD false) (aCons (eVar 1) aNil)) (eVar 0)) (sSeq (sFldM ["Row"] "order" (eBin subI (eCB lenD (aCons (eVar 1) aNil)) (eC (.int 1))) (eVar 0)) (sFldM ["Row"] "height" (eCall f_least_place (aCons (eVar 1) aNil) []) (eVar 0)))))
def f_Row___init__ : List D → Sto → Res D := chk 2 (runDef 2 m_Row___init__)
theorem fk_Row___init__ (ev : Ev K mg base) {fd : FuncData} (F : FunD K "__init__" "Row.__init__" (defArgs st_Row___init__) (defBody st_Row___init__) (defScope st_Row___init__) [] [] (He.ma K (He.ga K "Row") "__init__") fd) : FnOk P w K mg base (CXp P w) 4 (He.ma K (He.ga K "Row") "__init__") fd ["self", "numbers"] (spM K 2 f_Row___init__) := by
  have h : spM K 2 f_Row___init__ = spM K 2 (runDef 2 m_Row___init__) := runDef_chk
  rw [h]
  exact fn_sim (N := N_Row___init__) F sc_Row___init__ fun cdv A outer s H E hr => (sss_cons (ss_expr (se_fn (ok_check_numbers ev) hr (by omega) cx_takes (sa_cons (se_var (pv 1)) (sa_cons (se_neg se_int) sa_nil)))) (sss_cons (ss_fld (cs := ["Row"]) (one_no (inf_Row ev) (by decide)) (se_cty call_list_of (gc_list (k := false)) (ev.free "list") (sa_cons (se_var (pv 1)) sa_nil)) (se_var (pv 0))) (sss_cons (ss_fld (cs := ["Row"]) (one_no (inf_Row ev) (by decide)) (se_sub (se_cb call_len gc_len (ev.free "len") (sa_cons (se_var (pv 1)) sa_nil)) se_int) (se_var (pv 0))) (sss_one (ss_fld (cs := ["Row"]) (one_no (inf_Row ev) (by decide)) (se_fn (ok_least_place ev) hr (by omega) cx_takes (sa_cons (se_var (pv 1)) sa_nil)) (se_var (pv 0)))))))
abbrev mdp_Row : List (Nat × List Str × Bool) := [(1, [], false)]
theorem mkp_Row (ev : Ev K mg base) : MkP P w K mg base "Row" 4 1 f_Row___init__ mdp_Row := by
  obtain ⟨fd, F⟩ := ev.says.def_ D_Row___init__ rfl
  refine ⟨⟨_, fd, _, (inf_Row ev).mkr, fk_Row___init__ ev F, ?_⟩, ev.glo "Row", (inf_Row ev).cls [] (by simp), chk_len⟩
  intro md h
  simp only [mdp_Row, List.mem_cons, List.not_mem_nil, or_false] at h
  subst h
  exact kbn F 2 [] false (fun _ _ _ _ _ _ us ws h1 h2 => match us, ws, h1, h2 with | [_, _], [], _, _ => rfl)
abbrev N_Row_constant : List Str := ["value", "order", "_"]
abbrev st_Row_constant : Stmt := inCls (top 53) 1
theorem sc_Row_constant : FnScope N_Row_constant ["value", "order"] (defScope st_Row_constant) := ⟨rfl, rfl, rfl, by decide +kernel, rfl, by decide +kernel, by decide +kernel⟩
def m_Row_constant : Sm := (sSeq (sIf (tNot (tOf (eCall f_is_fraction (aCons (eVar 0) aNil) []))) mBad sNil) (sSeq (sIf (tNot (tOf (eCall f_is_order (aCons (eVar 1) aNil) []))) mBad sNil) (sRet (eFrz (eMkP "Row" f_Row___init__ 1 0 false (aCons (eBin (catL false) (eLst false (aCons (eVar 0) aNil)) (eComp false [2] (iRange1 (aCons (eVar 1) aNil)) (gN 2) tTrue (eC (.tup [.int 0, .int 1])))) aNil) aNil)))))
def f_Row_constant : List D → Sto → Res D := chk 2 (runDef 3 m_Row_constant)
theorem fk_Row_constant (ev : Ev K mg base) {fd : FuncData} (F : FunD K "constant" "Row.constant" (defArgs st_Row_constant) (defBody st_Row_constant) (defScope st_Row_constant) [] [] (He5.wf K (He.ga K "Row") "staticmethod" "constant") fd) : FnOk P w K mg base (CXp P w) 6 (He5.wf K (He.ga K "Row") "staticmethod" "constant") fd ["value", "order"] (spM K 2 f_Row_constant) := by
  have h : spM K 2 f_Row_constant = spM K 2 (runDef 3 m_Row_constant) := runDef_chk
  rw [h]
  exact fn_sim (N := N_Row_constant) F sc_Row_constant fun cdv A outer s H E hr => (sss_cons (ss_if (st_not (st_val (se_fn (ok_is_fraction ev) hr (by omega) cx_takes (sa_cons (se_var (pv 0)) sa_nil)))) (sss_one ss_bad) sss_nil) (sss_cons (ss_if (st_not (st_val (se_fn (ok_is_order ev) hr (by omega) cx_takes (sa_cons (se_var (pv 1)) sa_nil)))) (sss_one ss_bad) sss_nil) (sss_one (ss_ret (se_frz (se_mkP (mkp_Row ev) hr (by omega) cx_takes (inf_Row ev).mkr.kp (sa_cons (se_cat (k := false) (se_lst (k := false) (sa_cons (se_var (pv 0)) sa_nil)) (se_comp (k := false) (own := [("_", 2)]) rfl sc_Row_constant.nd (si_range1 (ev.free "range") (sa_cons (se_var (pv 1)) sa_nil)) (blkOk_by (N := N_Row_constant) (sc := defScope st_Row_constant) (own := [("_", 2)]) (by decide +kernel)) (fun _ _ _ _ _ => (pg_name (i := 2) sc_Row_constant.nd rfl (Or.inl rfl))) (grel_name (i := 2) (by decide)) (fun _ _ _ _ _ => (se_glob (ev.glo "ZERO") (fun w _ => rep_ktup (ns := [0, 1]) (ev.tup (e := ("ZERO", [0, 1])) (by decide +kernel)) w))))) sa_nil) (by simp [mdp_Row])))))))
theorem st_ok_Row_constant (ev : Ev K mg base) : FnSt P w K mg base "Row" "constant" 6 2 f_Row_constant := by
  obtain ⟨fd, F⟩ := ev.says.def_ D_Row_constant rfl
  exact ⟨⟨_, _, fd, _, ev.stm (e := ("Row", "constant")) (by decide +kernel), F.kp, fk_Row_constant ev F, (F.bindsN fun _ _ _ _ _ _ us hl => match us, hl with | [_, _], _ => rfl)⟩, ev.glo "Row", chk_len⟩
theorem inf_Step (ev : Ev K mg base) : InF K "Step" ["_numbers", "order", "lead", "height", "kind", "flat", "strength"] := ev.inf (e := ("Step", ["_numbers", "order", "lead", "height", "kind", "flat", "strength"])) (by decide +kernel)
abbrev N_Step___init__ : List Str := ["self", "numbers", "place"]
abbrev st_Step___init__ : Stmt := inCls (top 55) 0
theorem sc_Step___init__ : FnScope N_Step___init__ ["self", "numbers"] (defScope st_Step___init__) := ⟨rfl, rfl, rfl, by decide +kernel, rfl, by decide +kernel, by decide +kernel⟩
def m_Step___init__ : Sm := (sSeq (sExpr (eCall f_check_numbers (aCons (eVar 1) (aCons (eC (.int 0)) aNil)) [])) (sSeq (sFldM ["Step"] "_numbers" (eBin (catL false) (eLst false (aCons (eC (.tup [.int 0, .int 1])) aNil)) (eCB (listD false) (aCons (eVar 1) aNil))) (eVar 0)) (sSeq (sFldM ["Step"] "order" (eCB lenD (aCons (eVar 1) aNil)) (eVar 0)) (sSeq (sFldM ["Step"] "lead" (eBin ixD (eVar 1) (eC (.int 0))) (eVar 0)) (sSeq (sFldM ["Step"] "height" (eCall f_least_place (aCons (eUn (attD "_numbers") (eVar 0)) aNil) []) (eVar 0)) (sSeq (sFldM ["Step"] "kind" (eCall f__kind_of (aCons (eUn (attD "_numbers") (eVar 0)) aNil) []) (eVar 0)) (sSeq (sFldM ["Step"] "flat" (eC .non) (eVar 0)) (sSeq (sFldM ["Step"] "strength" (eC .non) (eVar 0)) (sSeq (sIf (tOf (eBin eqD (eUn (attD "kind") (eVar 0)) (eC (.str "creep")))) (sSeq (sSet 2 (eCall f__bend_of (aCons (eUn (attD "_numbers") (eVar 0)) aNil) [])) (sSeq (sFldM ["Step"] "flat" (eBin subI (eVar 2) (eC (.int 1))) (eVar 0)) (sFldM ["Step"] "strength" (eBin ixD (eVar 1) (eBin subI (eVar 2) (eC (.int 1)))) (eVar 0)))) sNil) (sIf (tOf (eBin eqD (eUn (attD "kind") (eVar 0)) (eC (.str "crush")))) (sFldM ["Step"] "strength" (eBin ixD (eVar 1) (eBin subI (eUn (attD "height") (eVar 0)) (eC (.int 1)))) (eVar 0)) sNil))))))))))
def f_Step___init__ : List D → Sto → Res D := chk 2 (runDef 3 m_Step___init__)
theorem fk_Step___init__ (ev : Ev K mg base) {fd : FuncData} (F : FunD K "__init__" "Step.__init__" (defArgs st_Step___init__) (defBody st_Step___init__) (defScope st_Step___init__) [] [] (He.ma K (He.ga K "Step") "__init__") fd) : FnOk P w K mg base (CXp P w) 4 (He.ma K (He.ga K "Step") "__init__") fd ["self", "numbers"] (spM K 2 f_Step___init__) := by
  have h : spM K 2 f_Step___init__ = spM K 2 (runDef 3 m_Step___init__) := runDef_chk
  rw [h]
  exact fn_sim (N := N_Step___init__) F sc_Step___init__ fun cdv A outer s H E hr => (sss_cons (ss_expr (se_fn (ok_check_numbers ev) hr (by omega) cx_takes (sa_cons (se_var (pv 1)) (sa_cons se_int sa_nil)))) (sss_cons (ss_fld (cs := ["Step"]) (one_no (inf_Step ev) (by decide)) (se_cat (k := false) (se_lst (k := false) (sa_cons (se_glob (ev.glo "ZERO") (fun w _ => rep_ktup (ns := [0, 1]) (ev.tup (e := ("ZERO", [0, 1])) (by decide +kernel)) w)) sa_nil)) (se_cty call_list_of (gc_list (k := false)) (ev.free "list") (sa_cons (se_var (pv 1)) sa_nil))) (se_var (pv 0))) (sss_cons (ss_fld (cs := ["Step"]) (one_no (inf_Step ev) (by decide)) (se_cb call_len gc_len (ev.free "len") (sa_cons (se_var (pv 1)) sa_nil)) (se_var (pv 0))) (sss_cons (ss_fld (cs := ["Step"]) (one_no (inf_Step ev) (by decide)) (se_ix (se_var (pv 1)) se_int) (se_var (pv 0))) (sss_cons (ss_fld (cs := ["Step"]) (one_no (inf_Step ev) (by decide)) (se_fn (ok_least_place ev) hr (by omega) cx_takes (sa_cons (se_att (se_var (pv 0))) sa_nil)) (se_var (pv 0))) (sss_cons (ss_fld (cs := ["Step"]) (one_no (inf_Step ev) (by decide)) (se_fn (ok__kind_of ev) hr (by omega) cx_takes (sa_cons (se_att (se_var (pv 0))) sa_nil)) (se_var (pv 0))) (sss_cons (ss_fld (cs := ["Step"]) (one_no (inf_Step ev) (by decide)) se_non (se_var (pv 0))) (sss_cons (ss_fld (cs := ["Step"]) (one_no (inf_Step ev) (by decide)) se_non (se_var (pv 0))) (sss_cons (ss_if (st_eq hr (se_att (se_var (pv 0))) se_str) (sss_cons (ss_set sc_Step___init__.nd (i := 2) rfl (by first | exact Or.inl rfl | exact Or.inr rfl) (se_fn (ok__bend_of ev) hr (by omega) cx_takes (sa_cons (se_att (se_var (pv 0))) sa_nil))) (sss_cons (ss_fld (cs := ["Step"]) (one_no (inf_Step ev) (by decide)) (se_sub (se_var (pv 2)) se_int) (se_var (pv 0))) (sss_one (ss_fld (cs := ["Step"]) (one_no (inf_Step ev) (by decide)) (se_ix (se_var (pv 1)) (se_sub (se_var (pv 2)) se_int)) (se_var (pv 0)))))) sss_nil) (sss_one (ss_if (st_eq hr (se_att (se_var (pv 0))) se_str) (sss_one (ss_fld (cs := ["Step"]) (one_no (inf_Step ev) (by decide)) (se_ix (se_var (pv 1)) (se_sub (se_att (se_var (pv 0))) se_int)) (se_var (pv 0)))) sss_nil)))))))))))
abbrev mdp_Step : List (Nat × List Str × Bool) := [(1, [], false)]
theorem mkp_Step (ev : Ev K mg base) : MkP P w K mg base "Step" 4 1 f_Step___init__ mdp_Step := by
  obtain ⟨fd, F⟩ := ev.says.def_ D_Step___init__ rfl
  refine ⟨⟨_, fd, _, (inf_Step ev).mkr, fk_Step___init__ ev F, ?_⟩, ev.glo "Step", (inf_Step ev).cls [] (by simp), chk_len⟩
  intro md h
  simp only [mdp_Step, List.mem_cons, List.not_mem_nil, or_false] at h
  subst h
  exact kbn F 2 [] false (fun _ _ _ _ _ _ us ws h1 h2 => match us, ws, h1, h2 with | [_, _], [], _, _ => rfl)
abbrev N_Step_still : List Str := ["order"]
abbrev st_Step_still : Stmt := inCls (top 55) 1
theorem sc_Step_still : FnScope N_Step_still ["order"] (defScope st_Step_still) := ⟨rfl, rfl, rfl, by decide +kernel, rfl, by decide +kernel, by decide +kernel⟩
def m_Step_still : Sm := (sSeq (sIf (tNot (tOf (eCall f_is_order (aCons (eVar 0) aNil) []))) mBad sNil) (sRet (eFrz (eMkP "Step" f_Step___init__ 1 0 false (aCons (eCall f_unit_line (aCons (eC (.int 0)) (aCons (eVar 0) aNil)) []) aNil) aNil))))
def f_Step_still : List D → Sto → Res D := chk 1 (runDef 1 m_Step_still)
theorem fk_Step_still (ev : Ev K mg base) {fd : FuncData} (F : FunD K "still" "Step.still" (defArgs st_Step_still) (defBody st_Step_still) (defScope st_Step_still) [] [] (He5.wf K (He.ga K "Step") "staticmethod" "still") fd) : FnOk P w K mg base (CXp P w) 6 (He5.wf K (He.ga K "Step") "staticmethod" "still") fd ["order"] (spM K 1 f_Step_still) := by
  have h : spM K 1 f_Step_still = spM K 1 (runDef 1 m_Step_still) := runDef_chk
  rw [h]
  exact fn_sim (N := N_Step_still) F sc_Step_still fun cdv A outer s H E hr => (sss_cons (ss_if (st_not (st_val (se_fn (ok_is_order ev) hr (by omega) cx_takes (sa_cons (se_var (pv 0)) sa_nil)))) (sss_one ss_bad) sss_nil) (sss_one (ss_ret (se_frz (se_mkP (mkp_Step ev) hr (by omega) cx_takes (inf_Step ev).mkr.kp (sa_cons (se_fn (ok_unit_line ev) hr (by omega) cx_takes (sa_cons se_int (sa_cons (se_var (pv 0)) sa_nil))) sa_nil) (by simp [mdp_Step]))))))
theorem st_ok_Step_still (ev : Ev K mg base) : FnSt P w K mg base "Step" "still" 6 1 f_Step_still := by
  obtain ⟨fd, F⟩ := ev.says.def_ D_Step_still rfl
  exact ⟨⟨_, _, fd, _, ev.stm (e := ("Step", "still")) (by decide +kernel), F.kp, fk_Step_still ev F, (F.bindsN fun _ _ _ _ _ _ us hl => match us, hl with | [_], _ => rfl)⟩, ev.glo "Step", chk_len⟩
abbrev N__law_bag : List Str := ["_law_script", "_law_seed", "_law_item"]
abbrev st__law_bag : Stmt := top 59
theorem sc__law_bag : FnScope N__law_bag ["_law_script"] (defScope st__law_bag) := ⟨rfl, rfl, rfl, by decide +kernel, rfl, by decide +kernel, by decide +kernel⟩
def m__law_bag : Sm := (sSeq (sSet 1 (eC (.int 13960))) (sSeq (sFor (iVal (eSl false (eVar 0) pNone (pSome (eC (.int 63))))) (gN 2) (sSet 1 (eBin modI (eCB intD (aCons (eBin addD (eBin addD (eBin mulI (eVar 1) (eC (.int 48271))) (eBin modI (eCB intD (aCons (eVar 2) aNil)) (eC (.int 2147483587)))) (eC (.int 307))) aNil)) (eC (.int 2147483629))))) (sRet (eLst true (aCons (eCB (listD false) (aCons (eSl false (eVar 0) pNone (pSome (eC (.int 63)))) aNil)) (aCons (eC (.int 0)) (aCons (eC (.int 0)) (aCons (eVar 1) (aCons (eC (.int 0)) aNil)))))))))
def f__law_bag : List D → Sto → Res D := chk 1 (runDef 3 m__law_bag)
theorem fk__law_bag (ev : Ev K mg base) {fd : FuncData} (F : FunD K "_law_bag" "_law_bag" (defArgs st__law_bag) (defBody st__law_bag) (defScope st__law_bag) [] [] (He.ga K "_law_bag") fd) : FnOk P w K mg base (CXp P w) 1 (He.ga K "_law_bag") fd ["_law_script"] (spM K 1 f__law_bag) := by
  have h : spM K 1 f__law_bag = spM K 1 (runDef 3 m__law_bag) := runDef_chk
  rw [h]
  exact fn_sim (N := N__law_bag) F sc__law_bag fun cdv A outer s H E hr => (sss_cons (ss_set sc__law_bag.nd (i := 1) rfl (by first | exact Or.inl rfl | exact Or.inr rfl) se_int) (sss_cons (ss_for cx_own rfl (si_val (se_sl (k := false) (se_var (pv 0)) sp_none (sp_some se_int))) (sg_name (i := 2) sc__law_bag.nd rfl (by first | exact Or.inl rfl | exact Or.inr rfl)) (sss_one (ss_set sc__law_bag.nd (i := 1) rfl (by first | exact Or.inl rfl | exact Or.inr rfl) (se_mod (se_cty call_int1 gc_int (ev.free "int") (sa_cons (se_add (se_add (se_mul (se_var (pv 1)) se_int) (se_mod (se_cty call_int1 gc_int (ev.free "int") (sa_cons (se_var (pv 2)) sa_nil)) se_int)) se_int) sa_nil)) se_int)))) (sss_one (ss_ret (se_lst (k := true) (sa_cons (se_cty call_list_of (gc_list (k := false)) (ev.free "list") (sa_cons (se_sl (k := false) (se_var (pv 0)) sp_none (sp_some se_int)) sa_nil)) (sa_cons se_int (sa_cons se_int (sa_cons (se_var (pv 1)) (sa_cons se_int sa_nil))))))))))
theorem ok__law_bag (ev : Ev K mg base) : Fn P w K mg base "_law_bag" 1 1 f__law_bag := by
  obtain ⟨fd, F⟩ := ev.says.def_ D__law_bag rfl
  exact ⟨⟨fd, ["_law_script"], fk__law_bag ev F, (F.bindsN fun _ _ _ _ _ _ us hl => match us, hl with | [_], _ => rfl)⟩, ev.glo "_law_bag", F.kp, chk_len⟩
abbrev N__law_draw : List Str := ["_law_bag_here", "_law_limit", "_law_item", "_law_digit"]
abbrev st__law_draw : Stmt := top 60
theorem sc__law_draw : FnScope N__law_draw ["_law_bag_here", "_law_limit"] (defScope st__law_draw) := ⟨rfl, rfl, rfl, by decide +kernel, rfl, by decide +kernel, by decide +kernel⟩
def m__law_draw : Sm := (sSeq (sSetIx (eBin addD (eBin ixD (eVar 0) (eC (.int 4))) (eC (.int 1))) (eVar 0) (eC (.int 4))) (sSeq (sIf (tAnd (tOf (eBin eqD (eBin ixD (eVar 0) (eC (.int 2))) (eC (.int 0)))) (tOf (eBin ltI (eBin ixD (eVar 0) (eC (.int 1))) (eCB lenD (aCons (eBin ixD (eVar 0) (eC (.int 0))) aNil))))) (sSeq (sSet 2 (eBin ixD (eBin ixD (eVar 0) (eC (.int 0))) (eBin ixD (eVar 0) (eC (.int 1))))) (sSeq (sSetIx (eBin addD (eBin ixD (eVar 0) (eC (.int 1))) (eC (.int 1))) (eVar 0) (eC (.int 1))) (sIf (tOf (eBin geI (eVar 2) (eBin powI (eC (.int 10)) (eC (.int 18))))) (sSetIx (eVar 2) (eVar 0) (eC (.int 2))) (sSetIx (eBin modI (eCB intD (aCons (eBin addD (eBin addD (eBin mulI (eBin ixD (eVar 0) (eC (.int 3))) (eC (.int 69621))) (eBin mulI (eBin modI (eCB intD (aCons (eVar 2) aNil)) (eC (.int 2147483549))) (eC (.int 30103)))) (eC (.int 89))) aNil)) (eC (.int 2147483629))) (eVar 0) (eC (.int 3)))))) sNil) (sSeq (sIf (tOf (eBin gtI (eBin ixD (eVar 0) (eC (.int 2))) (eC (.int 0)))) (sSeq (sSet 3 (eBin modI (eCB intD (aCons (eBin ixD (eVar 0) (eC (.int 2))) aNil)) (eVar 1))) (sSeq (sSetIx (eBin fdivI (eBin ixD (eVar 0) (eC (.int 2))) (eVar 1)) (eVar 0) (eC (.int 2))) (sRet (eVar 3)))) sNil) (sSeq (sSetIx (eBin modI (eCB intD (aCons (eBin addD (eBin addD (eBin powI (eBin ixD (eVar 0) (eC (.int 3))) (eC (.int 3))) (eBin mulI (eBin ixD (eVar 0) (eC (.int 4))) (eC (.int 1299709)))) (eC (.int 60013))) aNil)) (eC (.int 2147483629))) (eVar 0) (eC (.int 3))) (sRet (eBin modI (eCB intD (aCons (eBin addD (eBin fdivI (eBin ixD (eVar 0) (eC (.int 3))) (eC (.int 97))) (eBin mulI (eBin modI (eCB intD (aCons (eBin ixD (eVar 0) (eC (.int 3))) aNil)) (eC (.int 7901))) (eC (.int 67)))) aNil)) (eVar 1)))))))
def f__law_draw : List D → Sto → Res D := chk 2 (runDef 4 m__law_draw)
theorem fk__law_draw (ev : Ev K mg base) {fd : FuncData} (F : FunD K "_law_draw" "_law_draw" (defArgs st__law_draw) (defBody st__law_draw) (defScope st__law_draw) [] [] (He.ga K "_law_draw") fd) : FnOk P w K mg base (CXp P w) 1 (He.ga K "_law_draw") fd ["_law_bag_here", "_law_limit"] (spM K 2 f__law_draw) := by
  have h : spM K 2 f__law_draw = spM K 2 (runDef 4 m__law_draw) := runDef_chk
  rw [h]
  exact fn_sim (N := N__law_draw) F sc__law_draw fun cdv A outer s H E hr => (sss_cons (ss_setix (se_add (se_ix (se_var (pv 0)) se_int) se_int) (se_var (pv 0)) se_int) (sss_cons (ss_if (st_sw (sw_and (st_eq hr (se_ix (se_var (pv 0)) se_int) se_int) (sw_and1 (st_lt (se_ix (se_var (pv 0)) se_int) (se_cb call_len gc_len (ev.free "len") (sa_cons (se_ix (se_var (pv 0)) se_int) sa_nil)))))) (sss_cons (ss_set sc__law_draw.nd (i := 2) rfl (by first | exact Or.inl rfl | exact Or.inr rfl) (se_ix (se_ix (se_var (pv 0)) se_int) (se_ix (se_var (pv 0)) se_int))) (sss_cons (ss_setix (se_add (se_ix (se_var (pv 0)) se_int) se_int) (se_var (pv 0)) se_int) (sss_one (ss_if (st_ge (se_var (pv 2)) (se_pow se_int se_int)) (sss_one (ss_setix (se_var (pv 2)) (se_var (pv 0)) se_int)) (sss_one (ss_setix (se_mod (se_cty call_int1 gc_int (ev.free "int") (sa_cons (se_add (se_add (se_mul (se_ix (se_var (pv 0)) se_int) se_int) (se_mul (se_mod (se_cty call_int1 gc_int (ev.free "int") (sa_cons (se_var (pv 2)) sa_nil)) se_int) se_int)) se_int) sa_nil)) se_int) (se_var (pv 0)) se_int)))))) sss_nil) (sss_cons (ss_if (st_gt (se_ix (se_var (pv 0)) se_int) se_int) (sss_cons (ss_set sc__law_draw.nd (i := 3) rfl (by first | exact Or.inl rfl | exact Or.inr rfl) (se_mod (se_cty call_int1 gc_int (ev.free "int") (sa_cons (se_ix (se_var (pv 0)) se_int) sa_nil)) (se_var (pv 1)))) (sss_cons (ss_setix (se_fdiv (se_ix (se_var (pv 0)) se_int) (se_var (pv 1))) (se_var (pv 0)) se_int) (sss_one (ss_ret (se_var (pv 3)))))) sss_nil) (sss_cons (ss_setix (se_mod (se_cty call_int1 gc_int (ev.free "int") (sa_cons (se_add (se_add (se_pow (se_ix (se_var (pv 0)) se_int) se_int) (se_mul (se_ix (se_var (pv 0)) se_int) se_int)) se_int) sa_nil)) se_int) (se_var (pv 0)) se_int) (sss_one (ss_ret (se_mod (se_cty call_int1 gc_int (ev.free "int") (sa_cons (se_add (se_fdiv (se_ix (se_var (pv 0)) se_int) se_int) (se_mul (se_mod (se_cty call_int1 gc_int (ev.free "int") (sa_cons (se_ix (se_var (pv 0)) se_int) sa_nil)) se_int) se_int)) sa_nil)) (se_var (pv 1)))))))))
theorem ok__law_draw (ev : Ev K mg base) : Fn P w K mg base "_law_draw" 1 2 f__law_draw := by
  obtain ⟨fd, F⟩ := ev.says.def_ D__law_draw rfl
  exact ⟨⟨fd, ["_law_bag_here", "_law_limit"], fk__law_draw ev F, (F.bindsN fun _ _ _ _ _ _ us hl => match us, hl with | [_, _], _ => rfl)⟩, ev.glo "_law_draw", F.kp, chk_len⟩
abbrev N__law_of : List Str := ["_law_bag_here", "_law_things"]
abbrev st__law_of : Stmt := top 61
theorem sc__law_of : FnScope N__law_of ["_law_bag_here", "_law_things"] (defScope st__law_of) := ⟨rfl, rfl, rfl, by decide +kernel, rfl, by decide +kernel, by decide +kernel⟩
def m__law_of : Sm := (sRet (eBin ixD (eVar 1) (eCall f__law_draw (aCons (eVar 0) (aCons (eCB lenD (aCons (eVar 1) aNil)) aNil)) [])))
def f__law_of : List D → Sto → Res D := chk 2 (runDef 2 m__law_of)
theorem fk__law_of (ev : Ev K mg base) {fd : FuncData} (F : FunD K "_law_of" "_law_of" (defArgs st__law_of) (defBody st__law_of) (defScope st__law_of) [] [] (He.ga K "_law_of") fd) : FnOk P w K mg base (CXp P w) 2 (He.ga K "_law_of") fd ["_law_bag_here", "_law_things"] (spM K 2 f__law_of) := by
  have h : spM K 2 f__law_of = spM K 2 (runDef 2 m__law_of) := runDef_chk
  rw [h]
  exact fn_sim (N := N__law_of) F sc__law_of fun cdv A outer s H E hr => (sss_one (ss_ret (se_ix (se_var (pv 1)) (se_fn (ok__law_draw ev) hr (by omega) cx_takes (sa_cons (se_var (pv 0)) (sa_cons (se_cb call_len gc_len (ev.free "len") (sa_cons (se_var (pv 1)) sa_nil)) sa_nil))))))
theorem ok__law_of (ev : Ev K mg base) : Fn P w K mg base "_law_of" 2 2 f__law_of := by
  obtain ⟨fd, F⟩ := ev.says.def_ D__law_of rfl
  exact ⟨⟨fd, ["_law_bag_here", "_law_things"], fk__law_of ev F, (F.bindsN fun _ _ _ _ _ _ us hl => match us, hl with | [_, _], _ => rfl)⟩, ev.glo "_law_of", F.kp, chk_len⟩
abbrev N__law_like : List Str := ["_law_told", "_law_due", "_law_a", "_law_b"]
abbrev st__law_like : Stmt := top 62
theorem sc__law_like : FnScope N__law_like ["_law_told", "_law_due"] (defScope st__law_like) := ⟨rfl, rfl, rfl, by decide +kernel, rfl, by decide +kernel, by decide +kernel⟩
def m__law_like : Nat → Sm
  | 0 => mBad
  | n + 1 => (sSeq (sIf (tOf (eUn (isiD (isB2 "list" "tuple" clsL)) (eVar 1))) (sSeq (sIf (tOr (tOf (eBin neD (eUn (isiD (isB "list" clsL)) (eVar 0)) (eUn (isiD (isB "list" clsL)) (eVar 1)))) (tOf (eBin neD (eUn (isiD (isB "tuple" clsL)) (eVar 0)) (eUn (isiD (isB "tuple" clsL)) (eVar 1))))) (sRet (eC (.bl false))) sNil) (sRet (eAnd (eBin eqD (eCB lenD (aCons (eVar 0) aNil)) (eCB lenD (aCons (eVar 1) aNil))) (eCB allD (aCons (eComp false [2, 3] (iZipM (aCons (eVar 0) (aCons (eVar 1) aNil))) (gT 2 (gsCons (gN 2) (gsCons (gN 3) gsNil))) tTrue (eCall (chk 2 (runDef 4 (m__law_like n))) (aCons (eVar 2) (aCons (eVar 3) aNil)) [])) aNil))))) sNil) (sSeq (sIf (tOr (tOf (eBin isN (eVar 1) (eC .non))) (tOf (eBin isN (eVar 0) (eC .non)))) (sRet (eAnd (eBin isN (eVar 1) (eC .non)) (eBin isN (eVar 0) (eC .non)))) sNil) (sSeq (sIf (tOr (tOf (eUn (isiD (isB2 "list" "tuple" clsL)) (eVar 0))) (tOf (eBin neD (eUn (isiD (isB "bool" clsL)) (eVar 0)) (eUn (isiD (isB "bool" clsL)) (eVar 1))))) (sRet (eC (.bl false))) sNil) (sSeq (sIf (tOr (tOf (eBin neD (eUn (isiD (isB "str" clsL)) (eVar 0)) (eUn (isiD (isB "str" clsL)) (eVar 1)))) (tOf (eBin neD (eUn (isiD (isB "int" clsL)) (eVar 0)) (eUn (isiD (isB "int" clsL)) (eVar 1))))) (sRet (eC (.bl false))) sNil) (sRet (eBin eqD (eVar 0) (eVar 1)))))))
def f__law_like (n : Nat) : List D → Sto → Res D := chk 2 (runDef 4 (m__law_like n))
theorem ok__law_like (ev : Ev K mg base) (n : Nat) : Fn P w K mg base "_law_like" (1 + n) 2 (f__law_like n) := by
  induction n with
  | zero =>
    obtain ⟨fd, F⟩ := ev.says.def_ D__law_like rfl
    refine fn_name (k := 0) (m := mBad) (x := "_law_like") (N := N__law_like) (ps := ["_law_told", "_law_due"]) F sc__law_like (ev.glo "_law_like") (F.bindsN fun _ _ _ _ _ _ us hl => match us, hl with | [_, _], _ => rfl) fun cdv A outer s H E hr => ?_
    exact sss_bad ⟨_, pss_bad⟩
  | succ n IH =>
    obtain ⟨fd, F⟩ := ev.says.def_ D__law_like rfl
    refine fn_name (k := 1 + n) (x := "_law_like") (N := N__law_like) (ps := ["_law_told", "_law_due"]) F sc__law_like (ev.glo "_law_like") (F.bindsN fun _ _ _ _ _ _ us hl => match us, hl with | [_, _], _ => rfl) fun cdv A outer s H E hr => ?_
    exact (sss_cons (ss_if (st_val (se_isi2 (ev.free "isinstance") (se_var (pv 1)) (cls_ty (ev.free "list")) (cls_ty (ev.free "tuple")) (isB2_ok (by decide) (by decide) (ev.nocs (by decide)) (ev.nocs (by decide))))) (sss_cons (ss_if (st_sw (sw_or (st_ne hr (se_isi (ev.free "isinstance") (se_var (pv 0)) (cls_ty (ev.free "list")) (isB_ok (by decide) (ev.nocs (by decide)))) (se_isi (ev.free "isinstance") (se_var (pv 1)) (cls_ty (ev.free "list")) (isB_ok (by decide) (ev.nocs (by decide))))) (sw_or1 (st_ne hr (se_isi (ev.free "isinstance") (se_var (pv 0)) (cls_ty (ev.free "tuple")) (isB_ok (by decide) (ev.nocs (by decide)))) (se_isi (ev.free "isinstance") (se_var (pv 1)) (cls_ty (ev.free "tuple")) (isB_ok (by decide) (ev.nocs (by decide)))))))) (sss_one (ss_ret se_bl)) sss_nil) (sss_one (ss_ret (se_and (se_eq hr (se_cb call_len gc_len (ev.free "len") (sa_cons (se_var (pv 0)) sa_nil)) (se_cb call_len gc_len (ev.free "len") (sa_cons (se_var (pv 1)) sa_nil))) (se_one (se_cb (cr_all rfl) gc_all (ev.free "all") (sa_cons (se_comp (k := false) (own := [("_law_a", 2), ("_law_b", 3)]) rfl sc__law_like.nd (si_zip (ev.free "zip") (sa_cons (se_var (pv 0)) (sa_cons (se_var (pv 1)) sa_nil))) (blkOk_by (N := N__law_like) (sc := defScope st__law_like) (own := [("_law_a", 2), ("_law_b", 3)]) (by decide +kernel)) (fun _ _ _ _ _ => (pg_tup rfl (pgs_cons (pg_name (i := 2) sc__law_like.nd rfl (Or.inl rfl)) (pgs_cons (pg_name (i := 3) sc__law_like.nd rfl (Or.inl rfl)) pgs_nil)))) (grel_tup (grels_cons (grel_name (i := 2) (by decide)) (grels_cons (grel_name (i := 3) (by decide)) grels_nil))) (fun _ _ _ _ _ => (se_fn IH hr (by omega) takes0 (sa_cons (se_var (pv 2)) (sa_cons (se_var (pv 3)) sa_nil))))) sa_nil))))))) sss_nil) (sss_cons (ss_if (st_sw (sw_or (st_isN (se_var (pv 1)) se_non) (sw_or1 (st_isN (se_var (pv 0)) se_non)))) (sss_one (ss_ret (se_and (se_isN (se_var (pv 1)) se_non) (se_one (se_isN (se_var (pv 0)) se_non))))) sss_nil) (sss_cons (ss_if (st_sw (sw_or (st_val (se_isi2 (ev.free "isinstance") (se_var (pv 0)) (cls_ty (ev.free "list")) (cls_ty (ev.free "tuple")) (isB2_ok (by decide) (by decide) (ev.nocs (by decide)) (ev.nocs (by decide))))) (sw_or1 (st_ne hr (se_isi (ev.free "isinstance") (se_var (pv 0)) (cls_ty (ev.free "bool")) (isB_ok (by decide) (ev.nocs (by decide)))) (se_isi (ev.free "isinstance") (se_var (pv 1)) (cls_ty (ev.free "bool")) (isB_ok (by decide) (ev.nocs (by decide)))))))) (sss_one (ss_ret se_bl)) sss_nil) (sss_cons (ss_if (st_sw (sw_or (st_ne hr (se_isi (ev.free "isinstance") (se_var (pv 0)) (cls_ty (ev.free "str")) (isB_ok (by decide) (ev.nocs (by decide)))) (se_isi (ev.free "isinstance") (se_var (pv 1)) (cls_ty (ev.free "str")) (isB_ok (by decide) (ev.nocs (by decide))))) (sw_or1 (st_ne hr (se_isi (ev.free "isinstance") (se_var (pv 0)) (cls_ty (ev.free "int")) (isB_ok (by decide) (ev.nocs (by decide)))) (se_isi (ev.free "isinstance") (se_var (pv 1)) (cls_ty (ev.free "int")) (isB_ok (by decide) (ev.nocs (by decide)))))))) (sss_one (ss_ret se_bl)) sss_nil) (sss_one (ss_ret (se_eq hr (se_var (pv 0)) (se_var (pv 1)))))))))
abbrev N__law_low : List Str := ["_law_p", "_law_q", "_law_a", "_law_b"]
abbrev st__law_low : Stmt := top 63
theorem sc__law_low : FnScope N__law_low ["_law_p", "_law_q"] (defScope st__law_low) := ⟨rfl, rfl, rfl, by decide +kernel, rfl, by decide +kernel, by decide +kernel⟩
def m__law_low : Sm := (sSeq (sPar 2 3 (eCB absD (aCons (eVar 0) aNil)) (eCB absD (aCons (eVar 1) aNil))) (sSeq (sWhile w__law_low_418 (tOf (eBin gtI (eVar 3) (eC (.int 0)))) (sPar 2 3 (eVar 3) (eBin modI (eCB intD (aCons (eVar 2) aNil)) (eVar 3)))) (sSeq (sIf (tOf (eBin ltI (eVar 1) (eC (.int 0)))) (sSet 2 (eUn negI (eVar 2))) sNil) (sRet (eTup (aCons (eBin fdivI (eVar 0) (eVar 2)) (aCons (eBin fdivI (eVar 1) (eVar 2)) aNil)))))))
def f__law_low : List D → Sto → Res D := chk 2 (runDef 4 m__law_low)
theorem fk__law_low (ev : Ev K mg base) {fd : FuncData} (F : FunD K "_law_low" "_law_low" (defArgs st__law_low) (defBody st__law_low) (defScope st__law_low) [] [] (He.ga K "_law_low") fd) : FnOk P w K mg base (CXp P w) 1 (He.ga K "_law_low") fd ["_law_p", "_law_q"] (spM K 2 f__law_low) := by
  have h : spM K 2 f__law_low = spM K 2 (runDef 4 m__law_low) := runDef_chk
  rw [h]
  exact fn_sim (N := N__law_low) F sc__law_low fun cdv A outer s H E hr => (sss_cons (ss_par (i := 2) (j := 3) rfl sc__law_low.nd rfl rfl (by decide) rfl rfl (se_cb call_abs gc_abs (ev.free "abs") (sa_cons (se_var (pv 0)) sa_nil)) (se_cb call_abs gc_abs (ev.free "abs") (sa_cons (se_var (pv 1)) sa_nil)) (by rfl)) (sss_cons (ss_while cx_own (st_gt (se_var (pv 3)) se_int) (sss_one (ss_par (i := 2) (j := 3) rfl sc__law_low.nd rfl rfl (by decide) rfl rfl (se_var (pv 3)) (se_mod (se_cty call_int1 gc_int (ev.free "int") (sa_cons (se_var (pv 2)) sa_nil)) (se_var (pv 3))) (by rfl)))) (sss_cons (ss_if (st_lt (se_var (pv 1)) se_int) (sss_one (ss_set sc__law_low.nd (i := 2) rfl (by first | exact Or.inl rfl | exact Or.inr rfl) (se_neg (se_var (pv 2))))) sss_nil) (sss_one (ss_ret (se_tup (sa_cons (se_fdiv (se_var (pv 0)) (se_var (pv 2))) (sa_cons (se_fdiv (se_var (pv 1)) (se_var (pv 2))) sa_nil))))))))
theorem ok__law_low (ev : Ev K mg base) : Fn P w K mg base "_law_low" 1 2 f__law_low := by
  obtain ⟨fd, F⟩ := ev.says.def_ D__law_low rfl
  exact ⟨⟨fd, ["_law_p", "_law_q"], fk__law_low ev F, (F.bindsN fun _ _ _ _ _ _ us hl => match us, hl with | [_, _], _ => rfl)⟩, ev.glo "_law_low", F.kp, chk_len⟩
abbrev N__law_add : List Str := ["_law_a", "_law_b"]
abbrev st__law_add : Stmt := top 64
theorem sc__law_add : FnScope N__law_add ["_law_a", "_law_b"] (defScope st__law_add) := ⟨rfl, rfl, rfl, by decide +kernel, rfl, by decide +kernel, by decide +kernel⟩
def m__law_add : Sm := (sSeq (sIf (tAnd (tOf (eBin eqD (eBin ixD (eVar 0) (eC (.int 1))) (eC (.int 1)))) (tOf (eBin eqD (eBin ixD (eVar 1) (eC (.int 1))) (eC (.int 1))))) (sRet (eTup (aCons (eBin addD (eBin ixD (eVar 0) (eC (.int 0))) (eBin ixD (eVar 1) (eC (.int 0)))) (aCons (eC (.int 1)) aNil)))) sNil) (sRet (eCall f__law_low (aCons (eBin addD (eBin mulI (eBin ixD (eVar 0) (eC (.int 0))) (eBin ixD (eVar 1) (eC (.int 1)))) (eBin mulI (eBin ixD (eVar 1) (eC (.int 0))) (eBin ixD (eVar 0) (eC (.int 1))))) (aCons (eBin mulI (eBin ixD (eVar 0) (eC (.int 1))) (eBin ixD (eVar 1) (eC (.int 1)))) aNil)) [])))
def f__law_add : List D → Sto → Res D := chk 2 (runDef 2 m__law_add)
theorem fk__law_add (ev : Ev K mg base) {fd : FuncData} (F : FunD K "_law_add" "_law_add" (defArgs st__law_add) (defBody st__law_add) (defScope st__law_add) [] [] (He.ga K "_law_add") fd) : FnOk P w K mg base (CXp P w) 2 (He.ga K "_law_add") fd ["_law_a", "_law_b"] (spM K 2 f__law_add) := by
  have h : spM K 2 f__law_add = spM K 2 (runDef 2 m__law_add) := runDef_chk
  rw [h]
  exact fn_sim (N := N__law_add) F sc__law_add fun cdv A outer s H E hr => (sss_cons (ss_if (st_sw (sw_and (st_eq hr (se_ix (se_var (pv 0)) se_int) se_int) (sw_and1 (st_eq hr (se_ix (se_var (pv 1)) se_int) se_int)))) (sss_one (ss_ret (se_tup (sa_cons (se_add (se_ix (se_var (pv 0)) se_int) (se_ix (se_var (pv 1)) se_int)) (sa_cons se_int sa_nil))))) sss_nil) (sss_one (ss_ret (se_fn (ok__law_low ev) hr (by omega) cx_takes (sa_cons (se_add (se_mul (se_ix (se_var (pv 0)) se_int) (se_ix (se_var (pv 1)) se_int)) (se_mul (se_ix (se_var (pv 1)) se_int) (se_ix (se_var (pv 0)) se_int))) (sa_cons (se_mul (se_ix (se_var (pv 0)) se_int) (se_ix (se_var (pv 1)) se_int)) sa_nil))))))
theorem ok__law_add (ev : Ev K mg base) : Fn P w K mg base "_law_add" 2 2 f__law_add := by
  obtain ⟨fd, F⟩ := ev.says.def_ D__law_add rfl
  exact ⟨⟨fd, ["_law_a", "_law_b"], fk__law_add ev F, (F.bindsN fun _ _ _ _ _ _ us hl => match us, hl with | [_, _], _ => rfl)⟩, ev.glo "_law_add", F.kp, chk_len⟩
abbrev N__law_mul : List Str := ["_law_a", "_law_b"]
abbrev st__law_mul : Stmt := top 65
theorem sc__law_mul : FnScope N__law_mul ["_law_a", "_law_b"] (defScope st__law_mul) := ⟨rfl, rfl, rfl, by decide +kernel, rfl, by decide +kernel, by decide +kernel⟩
def m__law_mul : Sm := (sSeq (sIf (tAnd (tOf (eBin eqD (eBin ixD (eVar 0) (eC (.int 1))) (eC (.int 1)))) (tOf (eBin eqD (eBin ixD (eVar 1) (eC (.int 1))) (eC (.int 1))))) (sRet (eTup (aCons (eBin mulI (eBin ixD (eVar 0) (eC (.int 0))) (eBin ixD (eVar 1) (eC (.int 0)))) (aCons (eC (.int 1)) aNil)))) sNil) (sRet (eCall f__law_low (aCons (eBin mulI (eBin ixD (eVar 0) (eC (.int 0))) (eBin ixD (eVar 1) (eC (.int 0)))) (aCons (eBin mulI (eBin ixD (eVar 0) (eC (.int 1))) (eBin ixD (eVar 1) (eC (.int 1)))) aNil)) [])))
def f__law_mul : List D → Sto → Res D := chk 2 (runDef 2 m__law_mul)
theorem fk__law_mul (ev : Ev K mg base) {fd : FuncData} (F : FunD K "_law_mul" "_law_mul" (defArgs st__law_mul) (defBody st__law_mul) (defScope st__law_mul) [] [] (He.ga K "_law_mul") fd) : FnOk P w K mg base (CXp P w) 2 (He.ga K "_law_mul") fd ["_law_a", "_law_b"] (spM K 2 f__law_mul) := by
  have h : spM K 2 f__law_mul = spM K 2 (runDef 2 m__law_mul) := runDef_chk
  rw [h]
  exact fn_sim (N := N__law_mul) F sc__law_mul fun cdv A outer s H E hr => (sss_cons (ss_if (st_sw (sw_and (st_eq hr (se_ix (se_var (pv 0)) se_int) se_int) (sw_and1 (st_eq hr (se_ix (se_var (pv 1)) se_int) se_int)))) (sss_one (ss_ret (se_tup (sa_cons (se_mul (se_ix (se_var (pv 0)) se_int) (se_ix (se_var (pv 1)) se_int)) (sa_cons se_int sa_nil))))) sss_nil) (sss_one (ss_ret (se_fn (ok__law_low ev) hr (by omega) cx_takes (sa_cons (se_mul (se_ix (se_var (pv 0)) se_int) (se_ix (se_var (pv 1)) se_int)) (sa_cons (se_mul (se_ix (se_var (pv 0)) se_int) (se_ix (se_var (pv 1)) se_int)) sa_nil))))))
theorem ok__law_mul (ev : Ev K mg base) : Fn P w K mg base "_law_mul" 2 2 f__law_mul := by
  obtain ⟨fd, F⟩ := ev.says.def_ D__law_mul rfl
  exact ⟨⟨fd, ["_law_a", "_law_b"], fk__law_mul ev F, (F.bindsN fun _ _ _ _ _ _ us hl => match us, hl with | [_, _], _ => rfl)⟩, ev.glo "_law_mul", F.kp, chk_len⟩
abbrev N__law_neg : List Str := ["_law_a"]
abbrev st__law_neg : Stmt := top 66
theorem sc__law_neg : FnScope N__law_neg ["_law_a"] (defScope st__law_neg) := ⟨rfl, rfl, rfl, by decide +kernel, rfl, by decide +kernel, by decide +kernel⟩
def m__law_neg : Sm := (sRet (eTup (aCons (eUn negI (eBin ixD (eVar 0) (eC (.int 0)))) (aCons (eBin ixD (eVar 0) (eC (.int 1))) aNil))))
def f__law_neg : List D → Sto → Res D := chk 1 (runDef 1 m__law_neg)
theorem fk__law_neg (ev : Ev K mg base) {fd : FuncData} (F : FunD K "_law_neg" "_law_neg" (defArgs st__law_neg) (defBody st__law_neg) (defScope st__law_neg) [] [] (He.ga K "_law_neg") fd) : FnOk P w K mg base (CXp P w) 1 (He.ga K "_law_neg") fd ["_law_a"] (spM K 1 f__law_neg) := by
  have h : spM K 1 f__law_neg = spM K 1 (runDef 1 m__law_neg) := runDef_chk
  rw [h]
  exact fn_sim (N := N__law_neg) F sc__law_neg fun cdv A outer s H E hr => (sss_one (ss_ret (se_tup (sa_cons (se_neg (se_ix (se_var (pv 0)) se_int)) (sa_cons (se_ix (se_var (pv 0)) se_int) sa_nil)))))
theorem ok__law_neg (ev : Ev K mg base) : Fn P w K mg base "_law_neg" 1 1 f__law_neg := by
  obtain ⟨fd, F⟩ := ev.says.def_ D__law_neg rfl
  exact ⟨⟨fd, ["_law_a"], fk__law_neg ev F, (F.bindsN fun _ _ _ _ _ _ us hl => match us, hl with | [_], _ => rfl)⟩, ev.glo "_law_neg", F.kp, chk_len⟩
abbrev N__law_number : List Str := ["_law_bag_here", "_law_pick", "_law_p"]
abbrev st__law_number : Stmt := top 67
theorem sc__law_number : FnScope N__law_number ["_law_bag_here"] (defScope st__law_number) := ⟨rfl, rfl, rfl, by decide +kernel, rfl, by decide +kernel, by decide +kernel⟩
def m__law_number : Sm := (sSeq (sSet 1 (eCall f__law_draw (aCons (eVar 0) (aCons (eC (.int 18)) aNil)) [])) (sSeq (sIf (tOf (eBin ltI (eVar 1) (eC (.int 6)))) (sRet (eTup (aCons (eC (.int 0)) (aCons (eC (.int 1)) aNil)))) sNil) (sSeq (sIf (tOf (eBin ltI (eVar 1) (eC (.int 8)))) (sRet (eTup (aCons (eC (.int 1)) (aCons (eC (.int 1)) aNil)))) sNil) (sSeq (sSet 2 (eBin addD (eC (.int 1)) (eCall f__law_draw (aCons (eVar 0) (aCons (eC (.int 9)) aNil)) []))) (sSeq (sIf (tOf (eBin eqD (eVar 1) (eC (.int 17)))) (sSet 2 (eBin addD (eVar 2) (eCall f__law_draw (aCons (eVar 0) (aCons (eCall f__law_of (aCons (eVar 0) (aCons (eLst false (aCons (eC (.int 100)) (aCons (eC (.int 10000)) (aCons (eC (.int 1000000)) aNil)))) aNil)) []) aNil)) []))) sNil) (sSeq (sIf (tOf (eBin eqD (eCall f__law_draw (aCons (eVar 0) (aCons (eC (.int 2)) aNil)) []) (eC (.int 1)))) (sSet 2 (eUn negI (eVar 2))) sNil) (sRet (eCall f__law_low (aCons (eVar 2) (aCons (eCall f__law_of (aCons (eVar 0) (aCons (eLst false (aCons (eC (.int 1)) (aCons (eC (.int 1)) (aCons (eC (.int 2)) (aCons (eC (.int 1)) (aCons (eC (.int 3)) (aCons (eC (.int 1)) aNil))))))) aNil)) []) aNil)) []))))))))
def f__law_number : List D → Sto → Res D := chk 1 (runDef 3 m__law_number)
theorem fk__law_number (ev : Ev K mg base) {fd : FuncData} (F : FunD K "_law_number" "_law_number" (defArgs st__law_number) (defBody st__law_number) (defScope st__law_number) [] [] (He.ga K "_law_number") fd) : FnOk P w K mg base (CXp P w) 3 (He.ga K "_law_number") fd ["_law_bag_here"] (spM K 1 f__law_number) := by
  have h : spM K 1 f__law_number = spM K 1 (runDef 3 m__law_number) := runDef_chk
  rw [h]
  exact fn_sim (N := N__law_number) F sc__law_number fun cdv A outer s H E hr => (sss_cons (ss_set sc__law_number.nd (i := 1) rfl (by first | exact Or.inl rfl | exact Or.inr rfl) (se_fn (ok__law_draw ev) hr (by omega) cx_takes (sa_cons (se_var (pv 0)) (sa_cons se_int sa_nil)))) (sss_cons (ss_if (st_lt (se_var (pv 1)) se_int) (sss_one (ss_ret (se_tup (sa_cons se_int (sa_cons se_int sa_nil))))) sss_nil) (sss_cons (ss_if (st_lt (se_var (pv 1)) se_int) (sss_one (ss_ret (se_tup (sa_cons se_int (sa_cons se_int sa_nil))))) sss_nil) (sss_cons (ss_set sc__law_number.nd (i := 2) rfl (by first | exact Or.inl rfl | exact Or.inr rfl) (se_add se_int (se_fn (ok__law_draw ev) hr (by omega) cx_takes (sa_cons (se_var (pv 0)) (sa_cons se_int sa_nil))))) (sss_cons (ss_if (st_eq hr (se_var (pv 1)) se_int) (sss_one (ss_set sc__law_number.nd (i := 2) rfl (by first | exact Or.inl rfl | exact Or.inr rfl) (se_add (se_var (pv 2)) (se_fn (ok__law_draw ev) hr (by omega) cx_takes (sa_cons (se_var (pv 0)) (sa_cons (se_fn (ok__law_of ev) hr (by omega) cx_takes (sa_cons (se_var (pv 0)) (sa_cons (se_lst (k := false) (sa_cons se_int (sa_cons se_int (sa_cons se_int sa_nil)))) sa_nil))) sa_nil)))))) sss_nil) (sss_cons (ss_if (st_eq hr (se_fn (ok__law_draw ev) hr (by omega) cx_takes (sa_cons (se_var (pv 0)) (sa_cons se_int sa_nil))) se_int) (sss_one (ss_set sc__law_number.nd (i := 2) rfl (by first | exact Or.inl rfl | exact Or.inr rfl) (se_neg (se_var (pv 2))))) sss_nil) (sss_one (ss_ret (se_fn (ok__law_low ev) hr (by omega) cx_takes (sa_cons (se_var (pv 2)) (sa_cons (se_fn (ok__law_of ev) hr (by omega) cx_takes (sa_cons (se_var (pv 0)) (sa_cons (se_lst (k := false) (sa_cons se_int (sa_cons se_int (sa_cons se_int (sa_cons se_int (sa_cons se_int (sa_cons se_int sa_nil))))))) sa_nil))) sa_nil)))))))))))
theorem ok__law_number (ev : Ev K mg base) : Fn P w K mg base "_law_number" 3 1 f__law_number := by
  obtain ⟨fd, F⟩ := ev.says.def_ D__law_number rfl
  exact ⟨⟨fd, ["_law_bag_here"], fk__law_number ev F, (F.bindsN fun _ _ _ _ _ _ us hl => match us, hl with | [_], _ => rfl)⟩, ev.glo "_law_number", F.kp, chk_len⟩
abbrev N__law_big : List Str := ["_law_bag_here", "_law_p", "_law_k"]
abbrev st__law_big : Stmt := top 68
theorem sc__law_big : FnScope N__law_big ["_law_bag_here"] (defScope st__law_big) := ⟨rfl, rfl, rfl, by decide +kernel, rfl, by decide +kernel, by decide +kernel⟩
def m__law_big : Sm := (sSeq (sSet 1 (eCall f__law_draw (aCons (eVar 0) (aCons (eCall f__law_of (aCons (eVar 0) (aCons (eLst false (aCons (eC (.int 2)) (aCons (eC (.int 4)) (aCons (eC (.int 10)) (aCons (eC (.int 10)) (aCons (eC (.int 100)) (aCons (eC (.int 10000)) aNil))))))) aNil)) []) aNil)) [])) (sSeq (sFor (iRange1 (aCons (eCall f__law_of (aCons (eVar 0) (aCons (eLst false (aCons (eC (.int 0)) (aCons (eC (.int 0)) (aCons (eC (.int 0)) (aCons (eC (.int 0)) (aCons (eC (.int 1)) (aCons (eC (.int 2)) (aCons (eC (.int 8)) aNil)))))))) aNil)) []) aNil)) (gN 2) (sSet 1 (eBin addD (eBin mulI (eVar 1) (eBin powI (eC (.int 10)) (eC (.int 7)))) (eCall f__law_draw (aCons (eVar 0) (aCons (eBin powI (eC (.int 10)) (eC (.int 7))) aNil)) [])))) (sRet (eIf (tOf (eBin eqD (eCall f__law_draw (aCons (eVar 0) (aCons (eC (.int 2)) aNil)) []) (eC (.int 1)))) (eUn negI (eVar 1)) (eVar 1)))))
def f__law_big : List D → Sto → Res D := chk 1 (runDef 3 m__law_big)
theorem fk__law_big (ev : Ev K mg base) {fd : FuncData} (F : FunD K "_law_big" "_law_big" (defArgs st__law_big) (defBody st__law_big) (defScope st__law_big) [] [] (He.ga K "_law_big") fd) : FnOk P w K mg base (CXp P w) 3 (He.ga K "_law_big") fd ["_law_bag_here"] (spM K 1 f__law_big) := by
  have h : spM K 1 f__law_big = spM K 1 (runDef 3 m__law_big) := runDef_chk
  rw [h]
  exact fn_sim (N := N__law_big) F sc__law_big fun cdv A outer s H E hr => (sss_cons (ss_set sc__law_big.nd (i := 1) rfl (by first | exact Or.inl rfl | exact Or.inr rfl) (se_fn (ok__law_draw ev) hr (by omega) cx_takes (sa_cons (se_var (pv 0)) (sa_cons (se_fn (ok__law_of ev) hr (by omega) cx_takes (sa_cons (se_var (pv 0)) (sa_cons (se_lst (k := false) (sa_cons se_int (sa_cons se_int (sa_cons se_int (sa_cons se_int (sa_cons se_int (sa_cons se_int sa_nil))))))) sa_nil))) sa_nil)))) (sss_cons (ss_for cx_own rfl (si_range1 (ev.free "range") (sa_cons (se_fn (ok__law_of ev) hr (by omega) cx_takes (sa_cons (se_var (pv 0)) (sa_cons (se_lst (k := false) (sa_cons se_int (sa_cons se_int (sa_cons se_int (sa_cons se_int (sa_cons se_int (sa_cons se_int (sa_cons se_int sa_nil)))))))) sa_nil))) sa_nil)) (sg_name (i := 2) sc__law_big.nd rfl (by first | exact Or.inl rfl | exact Or.inr rfl)) (sss_one (ss_set sc__law_big.nd (i := 1) rfl (by first | exact Or.inl rfl | exact Or.inr rfl) (se_add (se_mul (se_var (pv 1)) (se_pow se_int se_int)) (se_fn (ok__law_draw ev) hr (by omega) cx_takes (sa_cons (se_var (pv 0)) (sa_cons (se_pow se_int se_int) sa_nil))))))) (sss_one (ss_ret (se_if (st_eq hr (se_fn (ok__law_draw ev) hr (by omega) cx_takes (sa_cons (se_var (pv 0)) (sa_cons se_int sa_nil))) se_int) (se_neg (se_var (pv 1))) (se_var (pv 1)))))))
theorem ok__law_big (ev : Ev K mg base) : Fn P w K mg base "_law_big" 3 1 f__law_big := by
  obtain ⟨fd, F⟩ := ev.says.def_ D__law_big rfl
  exact ⟨⟨fd, ["_law_bag_here"], fk__law_big ev F, (F.bindsN fun _ _ _ _ _ _ us hl => match us, hl with | [_], _ => rfl)⟩, ev.glo "_law_big", F.kp, chk_len⟩
abbrev N__law_wide : List Str := ["_law_bag_here", "_law_p", "_law_q"]
abbrev st__law_wide : Stmt := top 69
theorem sc__law_wide : FnScope N__law_wide ["_law_bag_here"] (defScope st__law_wide) := ⟨rfl, rfl, rfl, by decide +kernel, rfl, by decide +kernel, by decide +kernel⟩
def m__law_wide : Sm := (sSeq (sSet 1 (eCall f__law_big (aCons (eVar 0) aNil) [])) (sSeq (sSet 2 (eIf (tOf (eBin gtI (eCall f__law_draw (aCons (eVar 0) (aCons (eC (.int 3)) aNil)) []) (eC (.int 0)))) (eCall f__law_big (aCons (eVar 0) aNil) []) (eC (.int 1)))) (sRet (eCall f__law_low (aCons (eVar 1) (aCons (eIf (tOf (eBin neD (eVar 2) (eC (.int 0)))) (eVar 2) (eC (.int 1))) aNil)) []))))
def f__law_wide : List D → Sto → Res D := chk 1 (runDef 3 m__law_wide)
theorem fk__law_wide (ev : Ev K mg base) {fd : FuncData} (F : FunD K "_law_wide" "_law_wide" (defArgs st__law_wide) (defBody st__law_wide) (defScope st__law_wide) [] [] (He.ga K "_law_wide") fd) : FnOk P w K mg base (CXp P w) 4 (He.ga K "_law_wide") fd ["_law_bag_here"] (spM K 1 f__law_wide) := by
  have h : spM K 1 f__law_wide = spM K 1 (runDef 3 m__law_wide) := runDef_chk
  rw [h]
  exact fn_sim (N := N__law_wide) F sc__law_wide fun cdv A outer s H E hr => (sss_cons (ss_set sc__law_wide.nd (i := 1) rfl (by first | exact Or.inl rfl | exact Or.inr rfl) (se_fn (ok__law_big ev) hr (by omega) cx_takes (sa_cons (se_var (pv 0)) sa_nil))) (sss_cons (ss_set sc__law_wide.nd (i := 2) rfl (by first | exact Or.inl rfl | exact Or.inr rfl) (se_if (st_gt (se_fn (ok__law_draw ev) hr (by omega) cx_takes (sa_cons (se_var (pv 0)) (sa_cons se_int sa_nil))) se_int) (se_fn (ok__law_big ev) hr (by omega) cx_takes (sa_cons (se_var (pv 0)) sa_nil)) se_int)) (sss_one (ss_ret (se_fn (ok__law_low ev) hr (by omega) cx_takes (sa_cons (se_var (pv 1)) (sa_cons (se_if (st_ne hr (se_var (pv 2)) se_int) (se_var (pv 2)) se_int) sa_nil)))))))
theorem ok__law_wide (ev : Ev K mg base) : Fn P w K mg base "_law_wide" 4 1 f__law_wide := by
  obtain ⟨fd, F⟩ := ev.says.def_ D__law_wide rfl
  exact ⟨⟨fd, ["_law_bag_here"], fk__law_wide ev F, (F.bindsN fun _ _ _ _ _ _ us hl => match us, hl with | [_], _ => rfl)⟩, ev.glo "_law_wide", F.kp, chk_len⟩
abbrev N__law_is : List Str := ["_law_thing", "_law_part"]
abbrev st__law_is : Stmt := top 70
theorem sc__law_is : FnScope N__law_is ["_law_thing"] (defScope st__law_is) := ⟨rfl, rfl, rfl, by decide +kernel, rfl, by decide +kernel, by decide +kernel⟩
def m__law_is : Sm := (sSeq (sIf (tOr (tNot (tOf (eUn (isiD (isB "tuple" clsL)) (eVar 0)))) (tOf (eBin neD (eCB lenD (aCons (eVar 0) aNil)) (eC (.int 2))))) (sRet (eC (.bl false))) sNil) (sSeq (sIf (tNot (tOf (eCB allD (aCons (eComp false [1] (iVal (eVar 0)) (gN 1) tTrue (eAnd (eUn (isiD (isB "int" clsL)) (eVar 1)) (eNot (eUn (isiD (isB "bool" clsL)) (eVar 1))))) aNil)))) (sRet (eC (.bl false))) sNil) (sRet (eAnd (eBin geI (eBin ixD (eVar 0) (eC (.int 1))) (eC (.int 1))) (eBin eqD (eCall f__law_low (aCons (eBin ixD (eVar 0) (eC (.int 0))) (aCons (eBin ixD (eVar 0) (eC (.int 1))) aNil)) []) (eVar 0))))))
def f__law_is : List D → Sto → Res D := chk 1 (runDef 2 m__law_is)
theorem fk__law_is (ev : Ev K mg base) {fd : FuncData} (F : FunD K "_law_is" "_law_is" (defArgs st__law_is) (defBody st__law_is) (defScope st__law_is) [] [] (He.ga K "_law_is") fd) : FnOk P w K mg base (CXp P w) 2 (He.ga K "_law_is") fd ["_law_thing"] (spM K 1 f__law_is) := by
  have h : spM K 1 f__law_is = spM K 1 (runDef 2 m__law_is) := runDef_chk
  rw [h]
  exact fn_sim (N := N__law_is) F sc__law_is fun cdv A outer s H E hr => (sss_cons (ss_if (st_sw (sw_or (st_not (st_val (se_isi (ev.free "isinstance") (se_var (pv 0)) (cls_ty (ev.free "tuple")) (isB_ok (by decide) (ev.nocs (by decide)))))) (sw_or1 (st_ne hr (se_cb call_len gc_len (ev.free "len") (sa_cons (se_var (pv 0)) sa_nil)) se_int)))) (sss_one (ss_ret se_bl)) sss_nil) (sss_cons (ss_if (st_not (st_val (se_cb (cr_all rfl) gc_all (ev.free "all") (sa_cons (se_comp (k := false) (own := [("_law_part", 1)]) rfl sc__law_is.nd (si_val (se_var (pv 0))) (blkOk_by (N := N__law_is) (sc := defScope st__law_is) (own := [("_law_part", 1)]) (by decide +kernel)) (fun _ _ _ _ _ => (pg_name (i := 1) sc__law_is.nd rfl (Or.inl rfl))) (grel_name (i := 1) (by decide)) (fun _ _ _ _ _ => (se_and (se_isi (ev.free "isinstance") (se_var (pv 1)) (cls_ty (ev.free "int")) (isB_ok (by decide) (ev.nocs (by decide)))) (se_one (se_not (se_isi (ev.free "isinstance") (se_var (pv 1)) (cls_ty (ev.free "bool")) (isB_ok (by decide) (ev.nocs (by decide))))))))) sa_nil)))) (sss_one (ss_ret se_bl)) sss_nil) (sss_one (ss_ret (se_and (se_ge (se_ix (se_var (pv 0)) se_int) se_int) (se_one (se_eq hr (se_fn (ok__law_low ev) hr (by omega) cx_takes (sa_cons (se_ix (se_var (pv 0)) se_int) (sa_cons (se_ix (se_var (pv 0)) se_int) sa_nil))) (se_var (pv 0)))))))))
theorem ok__law_is (ev : Ev K mg base) : Fn P w K mg base "_law_is" 2 1 f__law_is := by
  obtain ⟨fd, F⟩ := ev.says.def_ D__law_is rfl
  exact ⟨⟨fd, ["_law_thing"], fk__law_is ev F, (F.bindsN fun _ _ _ _ _ _ us hl => match us, hl with | [_], _ => rfl)⟩, ev.glo "_law_is", F.kp, chk_len⟩
abbrev N__law_raised : List Str := ["_law_a", "_law_k", "_law_j", "_law_p", "_law_q"]
abbrev st__law_raised : Stmt := top 71
theorem sc__law_raised : FnScope N__law_raised ["_law_a", "_law_k"] (defScope st__law_raised) := ⟨rfl, rfl, rfl, by decide +kernel, rfl, by decide +kernel, by decide +kernel⟩
def m__law_raised : Sm := (sSeq (sAsg (eTup (aCons (eC (.int 1)) (aCons (eC (.int 1)) aNil))) (gT 2 (gsCons (gN 3) (gsCons (gN 4) gsNil)))) (sSeq (sFor (iRange1 (aCons (eVar 1) aNil)) (gN 2) (sPar 3 4 (eBin mulI (eVar 3) (eBin ixD (eVar 0) (eC (.int 0)))) (eBin mulI (eVar 4) (eBin ixD (eVar 0) (eC (.int 1)))))) (sRet (eTup (aCons (eVar 3) (aCons (eVar 4) aNil))))))
def f__law_raised : List D → Sto → Res D := chk 2 (runDef 5 m__law_raised)
theorem fk__law_raised (ev : Ev K mg base) {fd : FuncData} (F : FunD K "_law_raised" "_law_raised" (defArgs st__law_raised) (defBody st__law_raised) (defScope st__law_raised) [] [] (He.ga K "_law_raised") fd) : FnOk P w K mg base (CXp P w) 1 (He.ga K "_law_raised") fd ["_law_a", "_law_k"] (spM K 2 f__law_raised) := by
  have h : spM K 2 f__law_raised = spM K 2 (runDef 5 m__law_raised) := runDef_chk
  rw [h]
  exact fn_sim (N := N__law_raised) F sc__law_raised fun cdv A outer s H E hr => (sss_cons (ss_asg (se_tup (sa_cons se_int (sa_cons se_int sa_nil))) (sg_tup rfl (sgs_cons (sg_name (i := 3) sc__law_raised.nd rfl (by first | exact Or.inl rfl | exact Or.inr rfl)) (sgs_cons (sg_name (i := 4) sc__law_raised.nd rfl (by first | exact Or.inl rfl | exact Or.inr rfl)) sgs_nil)))) (sss_cons (ss_for cx_own rfl (si_range1 (ev.free "range") (sa_cons (se_var (pv 1)) sa_nil)) (sg_name (i := 2) sc__law_raised.nd rfl (by first | exact Or.inl rfl | exact Or.inr rfl)) (sss_one (ss_par (i := 3) (j := 4) rfl sc__law_raised.nd rfl rfl (by decide) rfl rfl (se_mul (se_var (pv 3)) (se_ix (se_var (pv 0)) se_int)) (se_mul (se_var (pv 4)) (se_ix (se_var (pv 0)) se_int)) (by rfl)))) (sss_one (ss_ret (se_tup (sa_cons (se_var (pv 3)) (sa_cons (se_var (pv 4)) sa_nil)))))))
theorem ok__law_raised (ev : Ev K mg base) : Fn P w K mg base "_law_raised" 1 2 f__law_raised := by
  obtain ⟨fd, F⟩ := ev.says.def_ D__law_raised rfl
  exact ⟨⟨fd, ["_law_a", "_law_k"], fk__law_raised ev F, (F.bindsN fun _ _ _ _ _ _ us hl => match us, hl with | [_, _], _ => rfl)⟩, ev.glo "_law_raised", F.kp, chk_len⟩
abbrev N__law_fault : List Str := ["_law_error"]
abbrev st__law_fault : Stmt := top 72
theorem sc__law_fault : FnScope N__law_fault ["_law_error"] (defScope st__law_fault) := ⟨rfl, rfl, rfl, by decide +kernel, rfl, by decide +kernel, by decide +kernel⟩
def m__law_fault : Sm := (sSeq (sIf (tOf (eUn (isiD (isO ancO leafs "InvalidPower")) (eVar 0))) (sRet (eLst false (aCons (eUn (attD "code") (eVar 0)) (aCons (eUn (attD "value") (eVar 0)) aNil)))) sNil) (sSeq (sIf (tOf (eUn (isiD (isO ancO leafs "DividedByZero")) (eVar 0))) (sRet (eLst false (aCons (eUn (attD "code") (eVar 0)) aNil))) sNil) (sRet (eLst false (aCons (eC (.str "another error")) aNil)))))
def f__law_fault : List D → Sto → Res D := chk 1 (runDef 1 m__law_fault)
theorem fh__law_fault (ev : Ev K mg base) : FnH P w K mg base "_law_fault" 1 1 f__law_fault := by
  obtain ⟨fd, F⟩ := ev.says.def_ D__law_fault rfl
  exact fnH_name (k := 0) (N := N__law_fault) (ps := ["_law_error"]) F sc__law_fault (ev.glo "_law_fault") (F.bindsN fun _ _ _ _ _ _ us hl => match us, hl with | [_], _ => rfl) fun cdv A outer s H hr => (sss_cons (ss_if (st_val (se_isi (ev.free "isinstance") (se_var (pv 0)) (cls_own (ev.glo "InvalidPower")) (isO_ok ev.tab anc_ok (by decide +kernel)))) (sss_one (ss_ret (se_lst (k := false) (sa_cons (se_att (se_var (pv 0))) (sa_cons (se_att (se_var (pv 0))) sa_nil))))) sss_nil) (sss_cons (ss_if (st_val (se_isi (ev.free "isinstance") (se_var (pv 0)) (cls_own (ev.glo "DividedByZero")) (isO_ok ev.tab anc_ok (by decide +kernel)))) (sss_one (ss_ret (se_lst (k := false) (sa_cons (se_att (se_var (pv 0))) sa_nil)))) sss_nil) (sss_one (ss_ret (se_lst (k := false) (sa_cons se_str sa_nil))))))
abbrev N__law_ask : List Str := ["_law_deed", "_law_error"]
abbrev st__law_ask : Stmt := top 73
theorem sc__law_ask : FnScope N__law_ask ["_law_deed"] (defScope st__law_ask) := ⟨rfl, rfl, rfl, by decide +kernel, rfl, by decide +kernel, by decide +kernel⟩
def cl__law_ask : List Cl := [⟨"CreepError", 1, sRet (eCallH f__law_fault (aCons (eVar 1) aNil))⟩, ⟨"NoAnswer", 1, sRet (eCallH f__law_fault (aCons (eVar 1) aNil))⟩]
def f__law_ask : (Sto → Res D) → Sto → Res D := fAsk 2 "told" ancO leafs cl__law_ask
theorem ask__law_ask (ev : Ev K mg base) : FnAsk P w K mg base "_law_ask" f__law_ask := by
  obtain ⟨fd, F⟩ := ev.says.def_ D__law_ask rfl
  refine ⟨⟨_, _, _, fd, N__law_ask, "_law_deed", F, sc__law_ask, rfl, .inl rfl, ⟨by decide, by decide⟩, F.bindsN fun _ _ _ _ _ _ us hl => match us, hl with | [_], _ => rfl, fun cdg => ?_⟩, ev.glo "_law_ask"⟩
  exact ask_gives (Ng := N__law_ask) sc__law_ask.nd (by decide) (fun A outer s H hr => (.cons ⟨rfl, by decide, .inl (ev.glo "CreepError")⟩ (i := 1) rfl rfl (fun a pn => sss_one (ss_ret (se_fnH (j := 1) (fh__law_fault ev) ⟨hr.dp, hr.un⟩ (by omega) (sa_cons (se_var (pv 1)) sa_nil)))) (.cons ⟨rfl, by decide, .inl (ev.glo "NoAnswer")⟩ (i := 1) rfl rfl (fun a pn => sss_one (ss_ret (se_fnH (j := 1) (fh__law_fault ev) ⟨hr.dp, hr.un⟩ (by omega) (sa_cons (se_var (pv 1)) sa_nil)))) .nil))) fun C hC k hk => exm_ok ev.tab anc_ok (subB_ok ev.sub) hC (by
    simp only [cl__law_ask, List.mem_cons, List.not_mem_nil, or_false] at hk
    rcases hk with rfl | rfl <;> decide +kernel)
abbrev N__law_any : List Str := ["_law_bag_here", "_law_a", "_law_some", "_law_p", "_law_q"]
abbrev st__law_any : Stmt := top 74
theorem sc__law_any : FnScope N__law_any ["_law_bag_here", "_law_a"] (defScope st__law_any) := ⟨rfl, rfl, rfl, by decide +kernel, rfl, by decide +kernel, by decide +kernel⟩
def m__law_any : Sm := (sSeq (sAsg (eIf (tAnd (tOf (eBin leI (eCB absD (aCons (eBin ixD (eVar 1) (eC (.int 0))) aNil)) (eBin powI (eC (.int 10)) (eC (.int 59))))) (tOf (eBin leI (eBin ixD (eVar 1) (eC (.int 1))) (eBin powI (eC (.int 10)) (eC (.int 59)))))) (eVar 1) (eTup (aCons (eUn negI (eC (.int 3))) (aCons (eC (.int 2)) aNil)))) (gT 2 (gsCons (gN 3) (gsCons (gN 4) gsNil)))) (sSeq (sSet 2 (eLst false (aCons (eVar 1) (aCons (eLst false (aCons (eVar 3) (aCons (eVar 4) aNil))) (aCons (eTup (aCons (eVar 3) (aCons (eUn negI (eVar 4)) aNil))) (aCons (eTup (aCons (eUn negI (eVar 3)) (aCons (eVar 4) aNil))) (aCons (eTup (aCons (eBin mulI (eVar 3) (eC (.int 2))) (aCons (eBin mulI (eVar 4) (eC (.int 2))) aNil))) (aCons (eTup (aCons (eVar 3) (aCons (eC (.int 0)) aNil))) (aCons (eTup (aCons (eVar 4) (aCons (eVar 3) aNil))) (aCons (eTup (aCons (eVar 3) (aCons (eVar 4) (aCons (eC (.int 1)) aNil)))) (aCons (eTup (aCons (eVar 3) aNil)) (aCons (eTup (aCons (eVar 1) (aCons (eVar 4) aNil))) (aCons (eVar 3) (aCons (eTup (aCons (eCB strI (aCons (eVar 3) aNil)) (aCons (eVar 4) aNil))) (aCons (eTup (aCons (eVar 3) (aCons (eC .non) aNil))) aNil))))))))))))))) (sSeq (sSet 2 (eBin (catL false) (eVar 2) (eLst false (aCons (eTup (aCons (eC (.bl true)) (aCons (eC (.int 1)) aNil))) (aCons (eTup (aCons (eC (.int 1)) (aCons (eC (.bl true)) aNil))) (aCons (eTup (aCons (eC (.bl false)) (aCons (eC (.int 1)) aNil))) (aCons (eTup (aCons (eC (.int 0)) (aCons (eC (.int 1)) aNil))) (aCons (eTup (aCons (eC (.int 0)) (aCons (eC (.int 2)) aNil))) (aCons (eTup (aCons (eC (.int 0)) (aCons (eUn negI (eC (.int 1))) aNil))) (aCons (eTup (aCons (eC (.int 1)) (aCons (eC (.int 1)) aNil))) (aCons (eTup (aCons (eVar 3) (aCons (eBin addD (eVar 4) (eC (.int 1))) aNil))) (aCons (eTup (aCons (eBin addD (eVar 3) (eVar 4)) (aCons (eVar 4) aNil))) (aCons (eC .non) (aCons (eC (.bl true)) (aCons (eC (.str "1/2")) (aCons (eC (.str "")) aNil)))))))))))))))) (sSeq (sSet 2 (eBin (catL false) (eVar 2) (eLst false (aCons (eTup aNil) (aCons (eLst false aNil) (aCons (eLst false (aCons (eVar 1) aNil)) (aCons (eTup (aCons (eVar 1) aNil)) (aCons (eCall f_Step_still (aCons (eC (.int 3)) aNil) []) (aCons (eTup (aCons (eCall f_Step_still (aCons (eC (.int 2)) aNil) []) (aCons (eC (.int 1)) aNil))) (aCons (eCall f_Row_constant (aCons (eTup (aCons (eC (.int 1)) (aCons (eC (.int 2)) aNil))) (aCons (eC (.int 2)) aNil)) []) (aCons (eTup (aCons (eC (.int 1)) (aCons (eCall f_Row_constant (aCons (eTup (aCons (eC (.int 0)) (aCons (eC (.int 1)) aNil))) (aCons (eC (.int 3)) aNil)) []) aNil))) (aCons (eTup (aCons (eTup (aCons (eC (.int 1)) (aCons (eC (.int 2)) aNil))) (aCons (eTup (aCons (eC (.int 1)) (aCons (eC (.int 3)) aNil))) aNil))) aNil)))))))))))) (sRet (eCall f__law_of (aCons (eVar 0) (aCons (eVar 2) aNil)) []))))))
def f__law_any : List D → Sto → Res D := chk 2 (runDef 5 m__law_any)
theorem fk__law_any (ev : Ev K mg base) {fd : FuncData} (F : FunD K "_law_any" "_law_any" (defArgs st__law_any) (defBody st__law_any) (defScope st__law_any) [] [] (He.ga K "_law_any") fd) : FnOk P w K mg base (CXp P w) 7 (He.ga K "_law_any") fd ["_law_bag_here", "_law_a"] (spM K 2 f__law_any) := by
  have h : spM K 2 f__law_any = spM K 2 (runDef 5 m__law_any) := runDef_chk
  rw [h]
  exact fn_sim (N := N__law_any) F sc__law_any fun cdv A outer s H E hr => (sss_cons (ss_asg (se_if (st_sw (sw_and (st_le (se_cb call_abs gc_abs (ev.free "abs") (sa_cons (se_ix (se_var (pv 1)) se_int) sa_nil)) (se_pow se_int se_int)) (sw_and1 (st_le (se_ix (se_var (pv 1)) se_int) (se_pow se_int se_int))))) (se_var (pv 1)) (se_tup (sa_cons (se_neg se_int) (sa_cons se_int sa_nil)))) (sg_tup rfl (sgs_cons (sg_name (i := 3) sc__law_any.nd rfl (by first | exact Or.inl rfl | exact Or.inr rfl)) (sgs_cons (sg_name (i := 4) sc__law_any.nd rfl (by first | exact Or.inl rfl | exact Or.inr rfl)) sgs_nil)))) (sss_cons (ss_set sc__law_any.nd (i := 2) rfl (by first | exact Or.inl rfl | exact Or.inr rfl) (se_lst (k := false) (sa_cons (se_var (pv 1)) (sa_cons (se_lst (k := false) (sa_cons (se_var (pv 3)) (sa_cons (se_var (pv 4)) sa_nil))) (sa_cons (se_tup (sa_cons (se_var (pv 3)) (sa_cons (se_neg (se_var (pv 4))) sa_nil))) (sa_cons (se_tup (sa_cons (se_neg (se_var (pv 3))) (sa_cons (se_var (pv 4)) sa_nil))) (sa_cons (se_tup (sa_cons (se_mul (se_var (pv 3)) se_int) (sa_cons (se_mul (se_var (pv 4)) se_int) sa_nil))) (sa_cons (se_tup (sa_cons (se_var (pv 3)) (sa_cons se_int sa_nil))) (sa_cons (se_tup (sa_cons (se_var (pv 4)) (sa_cons (se_var (pv 3)) sa_nil))) (sa_cons (se_tup (sa_cons (se_var (pv 3)) (sa_cons (se_var (pv 4)) (sa_cons se_int sa_nil)))) (sa_cons (se_tup (sa_cons (se_var (pv 3)) sa_nil)) (sa_cons (se_tup (sa_cons (se_var (pv 1)) (sa_cons (se_var (pv 4)) sa_nil))) (sa_cons (se_var (pv 3)) (sa_cons (se_tup (sa_cons (se_cty call_str_int gc_strI (ev.free "str") (sa_cons (se_var (pv 3)) sa_nil)) (sa_cons (se_var (pv 4)) sa_nil))) (sa_cons (se_tup (sa_cons (se_var (pv 3)) (sa_cons se_non sa_nil))) sa_nil))))))))))))))) (sss_cons (ss_set sc__law_any.nd (i := 2) rfl (by first | exact Or.inl rfl | exact Or.inr rfl) (se_cat (k := false) (se_var (pv 2)) (se_lst (k := false) (sa_cons (se_tup (sa_cons se_bl (sa_cons se_int sa_nil))) (sa_cons (se_tup (sa_cons se_int (sa_cons se_bl sa_nil))) (sa_cons (se_tup (sa_cons se_bl (sa_cons se_int sa_nil))) (sa_cons (se_tup (sa_cons se_int (sa_cons se_int sa_nil))) (sa_cons (se_tup (sa_cons se_int (sa_cons se_int sa_nil))) (sa_cons (se_tup (sa_cons se_int (sa_cons (se_neg se_int) sa_nil))) (sa_cons (se_tup (sa_cons se_int (sa_cons se_int sa_nil))) (sa_cons (se_tup (sa_cons (se_var (pv 3)) (sa_cons (se_add (se_var (pv 4)) se_int) sa_nil))) (sa_cons (se_tup (sa_cons (se_add (se_var (pv 3)) (se_var (pv 4))) (sa_cons (se_var (pv 4)) sa_nil))) (sa_cons se_non (sa_cons se_bl (sa_cons se_str (sa_cons se_str sa_nil)))))))))))))))) (sss_cons (ss_set sc__law_any.nd (i := 2) rfl (by first | exact Or.inl rfl | exact Or.inr rfl) (se_cat (k := false) (se_var (pv 2)) (se_lst (k := false) (sa_cons (se_tup sa_nil) (sa_cons (se_lst (k := false) sa_nil) (sa_cons (se_lst (k := false) (sa_cons (se_var (pv 1)) sa_nil)) (sa_cons (se_tup (sa_cons (se_var (pv 1)) sa_nil)) (sa_cons (se_st (st_ok_Step_still ev) hr (by omega) cx_takes (sa_cons se_int sa_nil)) (sa_cons (se_tup (sa_cons (se_st (st_ok_Step_still ev) hr (by omega) cx_takes (sa_cons se_int sa_nil)) (sa_cons se_int sa_nil))) (sa_cons (se_st (st_ok_Row_constant ev) hr (by omega) cx_takes (sa_cons (se_tup (sa_cons se_int (sa_cons se_int sa_nil))) (sa_cons se_int sa_nil))) (sa_cons (se_tup (sa_cons se_int (sa_cons (se_st (st_ok_Row_constant ev) hr (by omega) cx_takes (sa_cons (se_tup (sa_cons se_int (sa_cons se_int sa_nil))) (sa_cons se_int sa_nil))) sa_nil))) (sa_cons (se_tup (sa_cons (se_tup (sa_cons se_int (sa_cons se_int sa_nil))) (sa_cons (se_tup (sa_cons se_int (sa_cons se_int sa_nil))) sa_nil))) sa_nil)))))))))))) (sss_one (ss_ret (se_fn (ok__law_of ev) hr (by omega) cx_takes (sa_cons (se_var (pv 0)) (sa_cons (se_var (pv 2)) sa_nil)))))))))
theorem ok__law_any (ev : Ev K mg base) : Fn P w K mg base "_law_any" 7 2 f__law_any := by
  obtain ⟨fd, F⟩ := ev.says.def_ D__law_any rfl
  exact ⟨⟨fd, ["_law_bag_here", "_law_a"], fk__law_any ev F, (F.bindsN fun _ _ _ _ _ _ us hl => match us, hl with | [_, _], _ => rfl)⟩, ev.glo "_law_any", F.kp, chk_len⟩
abbrev N__law_deeds_so : List Str := ["_law_a", "_law_b", "_law_due", "_law_told"]
abbrev st__law_deeds_so : Stmt := top 75
theorem sc__law_deeds_so : FnScope N__law_deeds_so ["_law_a", "_law_b"] (defScope st__law_deeds_so) := ⟨rfl, rfl, rfl, by decide +kernel, rfl, by decide +kernel, by decide +kernel⟩
def m__law_deeds_so : Sm := (sSeq (sSet 2 (eLst false (aCons (eCall f__law_add (aCons (eVar 0) (aCons (eVar 1) aNil)) []) (aCons (eCall f__law_add (aCons (eVar 0) (aCons (eCall f__law_neg (aCons (eVar 1) aNil) []) aNil)) []) (aCons (eCall f__law_mul (aCons (eVar 0) (aCons (eVar 1) aNil)) []) (aCons (eBin ltI (eBin mulI (eBin ixD (eVar 0) (eC (.int 0))) (eBin ixD (eVar 1) (eC (.int 1)))) (eBin mulI (eBin ixD (eVar 1) (eC (.int 0))) (eBin ixD (eVar 0) (eC (.int 1))))) aNil)))))) (sSeq (sIf (tNot (tOf (eCall (f__law_like 6) (aCons (eLst false (aCons (eCall f_sum_of (aCons (eVar 0) (aCons (eVar 1) aNil)) []) (aCons (eCall f_difference_of (aCons (eVar 0) (aCons (eVar 1) aNil)) []) (aCons (eCall f_product_of (aCons (eVar 0) (aCons (eVar 1) aNil)) []) (aCons (eCall f_is_below (aCons (eVar 0) (aCons (eVar 1) aNil)) []) aNil))))) (aCons (eVar 2) aNil)) []))) (sRet (eC (.bl false))) sNil) (sSeq (sSet 3 (eLst false (aCons (eCallK f_sum_of 0 2 true aNil (aCons (eVar 1) (aCons (eVar 0) aNil))) (aCons (eCallK f_difference_of 0 2 true aNil (aCons (eVar 1) (aCons (eVar 0) aNil))) (aCons (eCallK f_product_of 1 1 false (aCons (eVar 0) aNil) (aCons (eVar 1) aNil)) (aCons (eCallK f_is_below 0 2 true aNil (aCons (eVar 1) (aCons (eVar 0) aNil))) aNil)))))) (sSeq (sIf (tNot (tOf (eCall (f__law_like 6) (aCons (eVar 3) (aCons (eVar 2) aNil)) []))) (sRet (eC (.bl false))) sNil) (sSeq (sIf (tOf (eBin eqD (eBin ixD (eVar 1) (eC (.int 0))) (eC (.int 0)))) (sSet 2 (eLst false (aCons (eC (.str "DividedByZero")) aNil))) (sSet 2 (eLst false (aCons (eC (.str "told")) (aCons (eCall f__law_low (aCons (eBin mulI (eBin ixD (eVar 0) (eC (.int 0))) (eBin ixD (eVar 1) (eC (.int 1)))) (aCons (eBin mulI (eBin ixD (eVar 0) (eC (.int 1))) (eBin ixD (eVar 1) (eC (.int 0)))) aNil)) []) aNil))))) (sRet (eCall (f__law_like 6) (aCons (eLst false (aCons (eAsk f__law_ask (eCall f_quotient_of (aCons (eVar 0) (aCons (eVar 1) aNil)) [])) (aCons (eAsk f__law_ask (eCallK f_quotient_of 0 2 true aNil (aCons (eVar 1) (aCons (eVar 0) aNil)))) aNil))) (aCons (eLst false (aCons (eVar 2) (aCons (eVar 2) aNil))) aNil)) [])))))))
def f__law_deeds_so : List D → Sto → Res D := chk 2 (runDef 4 m__law_deeds_so)
theorem fk__law_deeds_so (ev : Ev K mg base) {fd : FuncData} (F : FunD K "_law_deeds_so" "_law_deeds_so" (defArgs st__law_deeds_so) (defBody st__law_deeds_so) (defScope st__law_deeds_so) [] [] (He.ga K "_law_deeds_so") fd) : FnOk P w K mg base (CXp P w) 8 (He.ga K "_law_deeds_so") fd ["_law_a", "_law_b"] (spM K 2 f__law_deeds_so) := by
  have h : spM K 2 f__law_deeds_so = spM K 2 (runDef 4 m__law_deeds_so) := runDef_chk
  rw [h]
  exact fn_simC (N := N__law_deeds_so) F sc__law_deeds_so fun cdv hcd A outer s H E hr => (sss_cons (ss_set sc__law_deeds_so.nd (i := 2) rfl (by first | exact Or.inl rfl | exact Or.inr rfl) (se_lst (k := false) (sa_cons (se_fn (ok__law_add ev) hr (by omega) cx_takes (sa_cons (se_var (pv 0)) (sa_cons (se_var (pv 1)) sa_nil))) (sa_cons (se_fn (ok__law_add ev) hr (by omega) cx_takes (sa_cons (se_var (pv 0)) (sa_cons (se_fn (ok__law_neg ev) hr (by omega) cx_takes (sa_cons (se_var (pv 1)) sa_nil)) sa_nil))) (sa_cons (se_fn (ok__law_mul ev) hr (by omega) cx_takes (sa_cons (se_var (pv 0)) (sa_cons (se_var (pv 1)) sa_nil))) (sa_cons (se_lt (se_mul (se_ix (se_var (pv 0)) se_int) (se_ix (se_var (pv 1)) se_int)) (se_mul (se_ix (se_var (pv 1)) se_int) (se_ix (se_var (pv 0)) se_int))) sa_nil)))))) (sss_cons (ss_if (st_not (st_val (se_fn (ok__law_like ev 6) hr (by omega) cx_takes (sa_cons (se_lst (k := false) (sa_cons (se_fn (ok_sum_of ev) hr (by omega) cx_takes (sa_cons (se_var (pv 0)) (sa_cons (se_var (pv 1)) sa_nil))) (sa_cons (se_fn (ok_difference_of ev) hr (by omega) cx_takes (sa_cons (se_var (pv 0)) (sa_cons (se_var (pv 1)) sa_nil))) (sa_cons (se_fn (ok_product_of ev) hr (by omega) cx_takes (sa_cons (se_var (pv 0)) (sa_cons (se_var (pv 1)) sa_nil))) (sa_cons (se_fn (ok_is_below ev) hr (by omega) cx_takes (sa_cons (se_var (pv 0)) (sa_cons (se_var (pv 1)) sa_nil))) sa_nil))))) (sa_cons (se_var (pv 2)) sa_nil))))) (sss_one (ss_ret se_bl)) sss_nil) (sss_cons (ss_set sc__law_deeds_so.nd (i := 3) rfl (by first | exact Or.inl rfl | exact Or.inr rfl) (se_lst (k := false) (sa_cons (se_fnK0 (ks := ["other", "one"]) (okk_sum_of ev) hr (by omega) cx_takes (sk_cons (se_var (pv 1)) (sk_cons (se_var (pv 0)) sk_nil)) (by simp)) (sa_cons (se_fnK0 (ks := ["other", "one"]) (okk_difference_of ev) hr (by omega) cx_takes (sk_cons (se_var (pv 1)) (sk_cons (se_var (pv 0)) sk_nil)) (by simp)) (sa_cons (se_fnK (ks := ["other"]) (okk_product_of ev) hr (by omega) cx_takes (sa_cons (se_var (pv 0)) sa_nil) (sk_cons (se_var (pv 1)) sk_nil) (by simp)) (sa_cons (se_fnK0 (ks := ["other", "one"]) (okk_is_below ev) hr (by omega) cx_takes (sk_cons (se_var (pv 1)) (sk_cons (se_var (pv 0)) sk_nil)) (by simp)) sa_nil)))))) (sss_cons (ss_if (st_not (st_val (se_fn (ok__law_like ev 6) hr (by omega) cx_takes (sa_cons (se_var (pv 3)) (sa_cons (se_var (pv 2)) sa_nil))))) (sss_one (ss_ret se_bl)) sss_nil) (sss_cons (ss_if (st_eq hr (se_ix (se_var (pv 1)) se_int) se_int) (sss_one (ss_set sc__law_deeds_so.nd (i := 2) rfl (by first | exact Or.inl rfl | exact Or.inr rfl) (se_lst (k := false) (sa_cons se_str sa_nil)))) (sss_one (ss_set sc__law_deeds_so.nd (i := 2) rfl (by first | exact Or.inl rfl | exact Or.inr rfl) (se_lst (k := false) (sa_cons se_str (sa_cons (se_fn (ok__law_low ev) hr (by omega) cx_takes (sa_cons (se_mul (se_ix (se_var (pv 0)) se_int) (se_ix (se_var (pv 1)) se_int)) (sa_cons (se_mul (se_ix (se_var (pv 0)) se_int) (se_ix (se_var (pv 1)) se_int)) sa_nil))) sa_nil)))))) (sss_one (ss_ret (se_fn (ok__law_like ev 6) hr (by omega) cx_takes (sa_cons (se_lst (k := false) (sa_cons (se_ask (k := 4) (ask__law_ask ev) (hr.mono (by omega)) (ev.tab_ "_law_deeds_so") hcd (tab_mem (x := "_law_deeds_so") (by decide +kernel)) (tab_uniq (x := "_law_deeds_so") ev.inj (by decide +kernel)) (ys := []) (lamS3_by (N := N__law_deeds_so) (sc := defScope st__law_deeds_so) (by decide +kernel)) (.none rfl (fun _ _ _ _ _ => rfl)) (fun A outer s H E f c1 hr => (se_fn (ok_quotient_of ev) hr (by omega) lam_takes (sa_cons (se_var (pv 0)) (sa_cons (se_var (pv 1)) sa_nil))))) (sa_cons (se_ask (k := 4) (ask__law_ask ev) (hr.mono (by omega)) (ev.tab_ "_law_deeds_so") hcd (tab_mem (x := "_law_deeds_so") (by decide +kernel)) (tab_uniq (x := "_law_deeds_so") ev.inj (by decide +kernel)) (ys := ["_law_x"]) (lamS3_by (N := N__law_deeds_so) (sc := defScope st__law_deeds_so) (by decide +kernel)) (.one rfl (fun _ _ _ _ _ v T => ⟨_, rfl, rfl⟩)) (fun A outer s H E f c1 hr => (se_fnK0 (ks := ["other", "one"]) (okk_quotient_of ev) hr (by omega) lam_takes (sk_cons (se_var (pv 1)) (sk_cons (se_var (pv 0)) sk_nil)) (by simp)))) sa_nil))) (sa_cons (se_lst (k := false) (sa_cons (se_var (pv 2)) (sa_cons (se_var (pv 2)) sa_nil))) sa_nil))))))))))
theorem ok__law_deeds_so (ev : Ev K mg base) : Fn P w K mg base "_law_deeds_so" 8 2 f__law_deeds_so := by
  obtain ⟨fd, F⟩ := ev.says.def_ D__law_deeds_so rfl
  exact ⟨⟨fd, ["_law_a", "_law_b"], fk__law_deeds_so ev F, (F.bindsN fun _ _ _ _ _ _ us hl => match us, hl with | [_, _], _ => rfl)⟩, ev.glo "_law_deeds_so", F.kp, chk_len⟩
abbrev N__law_ratio_so : List Str := ["_law_bag_here", "_law_p", "_law_q", "_law_c", "_law_due"]
abbrev st__law_ratio_so : Stmt := top 76
theorem sc__law_ratio_so : FnScope N__law_ratio_so ["_law_bag_here", "_law_p", "_law_q"] (defScope st__law_ratio_so) := ⟨rfl, rfl, rfl, by decide +kernel, rfl, by decide +kernel, by decide +kernel⟩
def m__law_ratio_so : Sm := (sSeq (sSet 3 (eBin addD (eC (.int 1)) (eCall f__law_draw (aCons (eVar 0) (aCons (eC (.int 12)) aNil)) []))) (sSeq (sIf (tAnd (tOf (eBin ltI (eBin mulI (eCB absD (aCons (eVar 1) aNil)) (eVar 3)) (eBin powI (eC (.int 10)) (eC (.int 60))))) (tOf (eBin ltI (eBin mulI (eCB absD (aCons (eVar 2) aNil)) (eVar 3)) (eBin powI (eC (.int 10)) (eC (.int 60)))))) (sAsg (eTup (aCons (eBin mulI (eVar 1) (eVar 3)) (aCons (eBin mulI (eVar 2) (eVar 3)) aNil))) (gT 2 (gsCons (gN 1) (gsCons (gN 2) gsNil)))) sNil) (sSeq (sSet 4 (eIf (tOf (eBin eqD (eVar 2) (eC (.int 0)))) (eLst false (aCons (eC (.str "DividedByZero")) aNil)) (eLst false (aCons (eC (.str "told")) (aCons (eCall f__law_low (aCons (eVar 1) (aCons (eVar 2) aNil)) []) aNil))))) (sRet (eCall (f__law_like 6) (aCons (eLst false (aCons (eAsk f__law_ask (eCall f_ratio (aCons (eVar 1) (aCons (eVar 2) aNil)) [])) (aCons (eAsk f__law_ask (eCallK f_ratio 0 2 true aNil (aCons (eVar 2) (aCons (eVar 1) aNil)))) aNil))) (aCons (eLst false (aCons (eVar 4) (aCons (eVar 4) aNil))) aNil)) [])))))
def f__law_ratio_so : List D → Sto → Res D := chk 3 (runDef 5 m__law_ratio_so)
theorem fk__law_ratio_so (ev : Ev K mg base) {fd : FuncData} (F : FunD K "_law_ratio_so" "_law_ratio_so" (defArgs st__law_ratio_so) (defBody st__law_ratio_so) (defScope st__law_ratio_so) [] [] (He.ga K "_law_ratio_so") fd) : FnOk P w K mg base (CXp P w) 8 (He.ga K "_law_ratio_so") fd ["_law_bag_here", "_law_p", "_law_q"] (spM K 3 f__law_ratio_so) := by
  have h : spM K 3 f__law_ratio_so = spM K 3 (runDef 5 m__law_ratio_so) := runDef_chk
  rw [h]
  exact fn_simC (N := N__law_ratio_so) F sc__law_ratio_so fun cdv hcd A outer s H E hr => (sss_cons (ss_set sc__law_ratio_so.nd (i := 3) rfl (by first | exact Or.inl rfl | exact Or.inr rfl) (se_add se_int (se_fn (ok__law_draw ev) hr (by omega) cx_takes (sa_cons (se_var (pv 0)) (sa_cons se_int sa_nil))))) (sss_cons (ss_if (st_sw (sw_and (st_lt (se_mul (se_cb call_abs gc_abs (ev.free "abs") (sa_cons (se_var (pv 1)) sa_nil)) (se_var (pv 3))) (se_pow se_int se_int)) (sw_and1 (st_lt (se_mul (se_cb call_abs gc_abs (ev.free "abs") (sa_cons (se_var (pv 2)) sa_nil)) (se_var (pv 3))) (se_pow se_int se_int))))) (sss_one (ss_asg (se_tup (sa_cons (se_mul (se_var (pv 1)) (se_var (pv 3))) (sa_cons (se_mul (se_var (pv 2)) (se_var (pv 3))) sa_nil))) (sg_tup rfl (sgs_cons (sg_name (i := 1) sc__law_ratio_so.nd rfl (by first | exact Or.inl rfl | exact Or.inr rfl)) (sgs_cons (sg_name (i := 2) sc__law_ratio_so.nd rfl (by first | exact Or.inl rfl | exact Or.inr rfl)) sgs_nil))))) sss_nil) (sss_cons (ss_set sc__law_ratio_so.nd (i := 4) rfl (by first | exact Or.inl rfl | exact Or.inr rfl) (se_if (st_eq hr (se_var (pv 2)) se_int) (se_lst (k := false) (sa_cons se_str sa_nil)) (se_lst (k := false) (sa_cons se_str (sa_cons (se_fn (ok__law_low ev) hr (by omega) cx_takes (sa_cons (se_var (pv 1)) (sa_cons (se_var (pv 2)) sa_nil))) sa_nil))))) (sss_one (ss_ret (se_fn (ok__law_like ev 6) hr (by omega) cx_takes (sa_cons (se_lst (k := false) (sa_cons (se_ask (k := 3) (ask__law_ask ev) (hr.mono (by omega)) (ev.tab_ "_law_ratio_so") hcd (tab_mem (x := "_law_ratio_so") (by decide +kernel)) (tab_uniq (x := "_law_ratio_so") ev.inj (by decide +kernel)) (ys := []) (lamS3_by (N := N__law_ratio_so) (sc := defScope st__law_ratio_so) (by decide +kernel)) (.none rfl (fun _ _ _ _ _ => rfl)) (fun A outer s H E f c1 hr => (se_fn (ok_ratio ev) hr (by omega) lam_takes (sa_cons (se_var (pv 1)) (sa_cons (se_var (pv 2)) sa_nil))))) (sa_cons (se_ask (k := 3) (ask__law_ask ev) (hr.mono (by omega)) (ev.tab_ "_law_ratio_so") hcd (tab_mem (x := "_law_ratio_so") (by decide +kernel)) (tab_uniq (x := "_law_ratio_so") ev.inj (by decide +kernel)) (ys := ["_law_x"]) (lamS3_by (N := N__law_ratio_so) (sc := defScope st__law_ratio_so) (by decide +kernel)) (.one rfl (fun _ _ _ _ _ v T => ⟨_, rfl, rfl⟩)) (fun A outer s H E f c1 hr => (se_fnK0 (ks := ["lower", "upper"]) (okk_ratio ev) hr (by omega) lam_takes (sk_cons (se_var (pv 2)) (sk_cons (se_var (pv 1)) sk_nil)) (by simp)))) sa_nil))) (sa_cons (se_lst (k := false) (sa_cons (se_var (pv 4)) (sa_cons (se_var (pv 4)) sa_nil))) sa_nil))))))))
theorem ok__law_ratio_so (ev : Ev K mg base) : Fn P w K mg base "_law_ratio_so" 8 3 f__law_ratio_so := by
  obtain ⟨fd, F⟩ := ev.says.def_ D__law_ratio_so rfl
  exact ⟨⟨fd, ["_law_bag_here", "_law_p", "_law_q"], fk__law_ratio_so ev F, (F.bindsN fun _ _ _ _ _ _ us hl => match us, hl with | [_, _, _], _ => rfl)⟩, ev.glo "_law_ratio_so", F.kp, chk_len⟩
abbrev N__law_power_so : List Str := ["_law_bag_here", "_law_a", "_law_k", "_law_odd", "_law_due", "_law_p", "_law_q"]
abbrev st__law_power_so : Stmt := top 77
theorem sc__law_power_so : FnScope N__law_power_so ["_law_bag_here", "_law_a"] (defScope st__law_power_so) := ⟨rfl, rfl, rfl, by decide +kernel, rfl, by decide +kernel, by decide +kernel⟩
def m__law_power_so : Sm := (sSeq (sSet 2 (eCall f__law_of (aCons (eVar 0) (aCons (eLst false (aCons (eC (.int 0)) (aCons (eC (.int 1)) (aCons (eC (.int 2)) (aCons (eC (.int 3)) (aCons (eC (.int 5)) (aCons (eUn negI (eC (.int 1))) (aCons (eUn negI (eC (.int 2))) (aCons (eC (.int 64)) (aCons (eUn negI (eC (.int 64))) (aCons (eC (.int 65)) (aCons (eUn negI (eC (.int 65))) (aCons (eC (.int 40)) (aCons (eUn negI (eC (.int 33))) (aCons (eBin powI (eC (.int 10)) (eC (.int 20))) (aCons (eBin subI (eCall f__law_draw (aCons (eVar 0) (aCons (eC (.int 133)) aNil)) []) (eC (.int 66))) aNil)))))))))))))))) aNil)) [])) (sSeq (sIf (tOr (tOf (eBin gtI (eCB absD (aCons (eBin ixD (eVar 1) (eC (.int 0))) aNil)) (eBin powI (eC (.int 10)) (eC (.int 9))))) (tOf (eBin gtI (eBin ixD (eVar 1) (eC (.int 1))) (eBin powI (eC (.int 10)) (eC (.int 9)))))) (sSet 2 (eCall f__law_of (aCons (eVar 0) (aCons (eLst false (aCons (eVar 2) (aCons (eC (.int 2)) (aCons (eUn negI (eC (.int 3))) aNil)))) aNil)) [])) sNil) (sSeq (sIf (tOf (eBin gtI (eCB absD (aCons (eVar 2) aNil)) (eC (.int 64)))) (sSet 4 (eLst false (aCons (eC (.str "InvalidPower")) (aCons (eVar 2) aNil)))) (sIf (tAnd (tOf (eBin eqD (eBin ixD (eVar 1) (eC (.int 0))) (eC (.int 0)))) (tOf (eBin ltI (eVar 2) (eC (.int 0))))) (sSet 4 (eLst false (aCons (eC (.str "DividedByZero")) aNil))) (sSeq (sAsg (eCall f__law_raised (aCons (eVar 1) (aCons (eCB absD (aCons (eVar 2) aNil)) aNil)) []) (gT 2 (gsCons (gN 5) (gsCons (gN 6) gsNil)))) (sSeq (sIf (tOf (eBin ltI (eVar 2) (eC (.int 0)))) (sAsg (eIf (tOf (eBin gtI (eVar 5) (eC (.int 0)))) (eTup (aCons (eVar 6) (aCons (eVar 5) aNil))) (eTup (aCons (eUn negI (eVar 6)) (aCons (eUn negI (eVar 5)) aNil)))) (gT 2 (gsCons (gN 5) (gsCons (gN 6) gsNil)))) sNil) (sSet 4 (eLst false (aCons (eC (.str "told")) (aCons (eTup (aCons (eVar 5) (aCons (eVar 6) aNil))) aNil)))))))) (sSeq (sIf (tNot (tOf (eCall (f__law_like 6) (aCons (eLst false (aCons (eAsk f__law_ask (eCall f_power_of (aCons (eVar 1) (aCons (eVar 2) aNil)) [])) (aCons (eAsk f__law_ask (eCallK f_power_of 0 2 true aNil (aCons (eVar 2) (aCons (eVar 1) aNil)))) aNil))) (aCons (eLst false (aCons (eVar 4) (aCons (eVar 4) aNil))) aNil)) []))) (sRet (eC (.bl false))) sNil) (sSeq (sSet 3 (eCall f__law_of (aCons (eVar 0) (aCons (eLst false (aCons (eC .non) (aCons (eC (.bl true)) (aCons (eC (.bl false)) (aCons (eC (.str "2")) (aCons (eC (.str "")) (aCons (eTup (aCons (eC (.int 2)) (aCons (eC (.int 1)) aNil))) (aCons (eTup (aCons (eC (.int 1)) (aCons (eC (.int 2)) aNil))) (aCons (eLst false (aCons (eC (.int 2)) aNil)) (aCons (eTup aNil) (aCons (eC (.int 66)) (aCons (eUn negI (eC (.int 66))) (aCons (eBin powI (eC (.int 10)) (eC (.int 59))) aNil))))))))))))) aNil)) [])) (sRet (eCall (f__law_like 6) (aCons (eAsk f__law_ask (eCall f_power_of (aCons (eVar 1) (aCons (eVar 3) aNil)) [])) (aCons (eLst false (aCons (eC (.str "InvalidPower")) (aCons (eVar 3) aNil))) aNil)) [])))))))
def f__law_power_so : List D → Sto → Res D := chk 2 (runDef 7 m__law_power_so)
theorem fk__law_power_so (ev : Ev K mg base) {fd : FuncData} (F : FunD K "_law_power_so" "_law_power_so" (defArgs st__law_power_so) (defBody st__law_power_so) (defScope st__law_power_so) [] [] (He.ga K "_law_power_so") fd) : FnOk P w K mg base (CXp P w) 8 (He.ga K "_law_power_so") fd ["_law_bag_here", "_law_a"] (spM K 2 f__law_power_so) := by
  have h : spM K 2 f__law_power_so = spM K 2 (runDef 7 m__law_power_so) := runDef_chk
  rw [h]
  exact fn_simC (N := N__law_power_so) F sc__law_power_so fun cdv hcd A outer s H E hr => (sss_cons (ss_set sc__law_power_so.nd (i := 2) rfl (by first | exact Or.inl rfl | exact Or.inr rfl) (se_fn (ok__law_of ev) hr (by omega) cx_takes (sa_cons (se_var (pv 0)) (sa_cons (se_lst (k := false) (sa_cons se_int (sa_cons se_int (sa_cons se_int (sa_cons se_int (sa_cons se_int (sa_cons (se_neg se_int) (sa_cons (se_neg se_int) (sa_cons se_int (sa_cons (se_neg se_int) (sa_cons se_int (sa_cons (se_neg se_int) (sa_cons se_int (sa_cons (se_neg se_int) (sa_cons (se_pow se_int se_int) (sa_cons (se_sub (se_fn (ok__law_draw ev) hr (by omega) cx_takes (sa_cons (se_var (pv 0)) (sa_cons se_int sa_nil))) se_int) sa_nil)))))))))))))))) sa_nil)))) (sss_cons (ss_if (st_sw (sw_or (st_gt (se_cb call_abs gc_abs (ev.free "abs") (sa_cons (se_ix (se_var (pv 1)) se_int) sa_nil)) (se_pow se_int se_int)) (sw_or1 (st_gt (se_ix (se_var (pv 1)) se_int) (se_pow se_int se_int))))) (sss_one (ss_set sc__law_power_so.nd (i := 2) rfl (by first | exact Or.inl rfl | exact Or.inr rfl) (se_fn (ok__law_of ev) hr (by omega) cx_takes (sa_cons (se_var (pv 0)) (sa_cons (se_lst (k := false) (sa_cons (se_var (pv 2)) (sa_cons se_int (sa_cons (se_neg se_int) sa_nil)))) sa_nil))))) sss_nil) (sss_cons (ss_if (st_gt (se_cb call_abs gc_abs (ev.free "abs") (sa_cons (se_var (pv 2)) sa_nil)) se_int) (sss_one (ss_set sc__law_power_so.nd (i := 4) rfl (by first | exact Or.inl rfl | exact Or.inr rfl) (se_lst (k := false) (sa_cons se_str (sa_cons (se_var (pv 2)) sa_nil))))) (sss_one (ss_if (st_sw (sw_and (st_eq hr (se_ix (se_var (pv 1)) se_int) se_int) (sw_and1 (st_lt (se_var (pv 2)) se_int)))) (sss_one (ss_set sc__law_power_so.nd (i := 4) rfl (by first | exact Or.inl rfl | exact Or.inr rfl) (se_lst (k := false) (sa_cons se_str sa_nil)))) (sss_cons (ss_asg (se_fn (ok__law_raised ev) hr (by omega) cx_takes (sa_cons (se_var (pv 1)) (sa_cons (se_cb call_abs gc_abs (ev.free "abs") (sa_cons (se_var (pv 2)) sa_nil)) sa_nil))) (sg_tup rfl (sgs_cons (sg_name (i := 5) sc__law_power_so.nd rfl (by first | exact Or.inl rfl | exact Or.inr rfl)) (sgs_cons (sg_name (i := 6) sc__law_power_so.nd rfl (by first | exact Or.inl rfl | exact Or.inr rfl)) sgs_nil)))) (sss_cons (ss_if (st_lt (se_var (pv 2)) se_int) (sss_one (ss_asg (se_if (st_gt (se_var (pv 5)) se_int) (se_tup (sa_cons (se_var (pv 6)) (sa_cons (se_var (pv 5)) sa_nil))) (se_tup (sa_cons (se_neg (se_var (pv 6))) (sa_cons (se_neg (se_var (pv 5))) sa_nil)))) (sg_tup rfl (sgs_cons (sg_name (i := 5) sc__law_power_so.nd rfl (by first | exact Or.inl rfl | exact Or.inr rfl)) (sgs_cons (sg_name (i := 6) sc__law_power_so.nd rfl (by first | exact Or.inl rfl | exact Or.inr rfl)) sgs_nil))))) sss_nil) (sss_one (ss_set sc__law_power_so.nd (i := 4) rfl (by first | exact Or.inl rfl | exact Or.inr rfl) (se_lst (k := false) (sa_cons se_str (sa_cons (se_tup (sa_cons (se_var (pv 5)) (sa_cons (se_var (pv 6)) sa_nil))) sa_nil)))))))))) (sss_cons (ss_if (st_not (st_val (se_fn (ok__law_like ev 6) hr (by omega) cx_takes (sa_cons (se_lst (k := false) (sa_cons (se_ask (k := 4) (ask__law_ask ev) (hr.mono (by omega)) (ev.tab_ "_law_power_so") hcd (tab_mem (x := "_law_power_so") (by decide +kernel)) (tab_uniq (x := "_law_power_so") ev.inj (by decide +kernel)) (ys := []) (lamS3_by (N := N__law_power_so) (sc := defScope st__law_power_so) (by decide +kernel)) (.none rfl (fun _ _ _ _ _ => rfl)) (fun A outer s H E f c1 hr => (se_fn (ok_power_of ev) hr (by omega) lam_takes (sa_cons (se_var (pv 1)) (sa_cons (se_var (pv 2)) sa_nil))))) (sa_cons (se_ask (k := 4) (ask__law_ask ev) (hr.mono (by omega)) (ev.tab_ "_law_power_so") hcd (tab_mem (x := "_law_power_so") (by decide +kernel)) (tab_uniq (x := "_law_power_so") ev.inj (by decide +kernel)) (ys := ["_law_x"]) (lamS3_by (N := N__law_power_so) (sc := defScope st__law_power_so) (by decide +kernel)) (.one rfl (fun _ _ _ _ _ v T => ⟨_, rfl, rfl⟩)) (fun A outer s H E f c1 hr => (se_fnK0 (ks := ["n", "value"]) (okk_power_of ev) hr (by omega) lam_takes (sk_cons (se_var (pv 2)) (sk_cons (se_var (pv 1)) sk_nil)) (by simp)))) sa_nil))) (sa_cons (se_lst (k := false) (sa_cons (se_var (pv 4)) (sa_cons (se_var (pv 4)) sa_nil))) sa_nil))))) (sss_one (ss_ret se_bl)) sss_nil) (sss_cons (ss_set sc__law_power_so.nd (i := 3) rfl (by first | exact Or.inl rfl | exact Or.inr rfl) (se_fn (ok__law_of ev) hr (by omega) cx_takes (sa_cons (se_var (pv 0)) (sa_cons (se_lst (k := false) (sa_cons se_non (sa_cons se_bl (sa_cons se_bl (sa_cons se_str (sa_cons se_str (sa_cons (se_tup (sa_cons se_int (sa_cons se_int sa_nil))) (sa_cons (se_tup (sa_cons se_int (sa_cons se_int sa_nil))) (sa_cons (se_lst (k := false) (sa_cons se_int sa_nil)) (sa_cons (se_tup sa_nil) (sa_cons se_int (sa_cons (se_neg se_int) (sa_cons (se_pow se_int se_int) sa_nil))))))))))))) sa_nil)))) (sss_one (ss_ret (se_fn (ok__law_like ev 6) hr (by omega) cx_takes (sa_cons (se_ask (k := 4) (ask__law_ask ev) (hr.mono (by omega)) (ev.tab_ "_law_power_so") hcd (tab_mem (x := "_law_power_so") (by decide +kernel)) (tab_uniq (x := "_law_power_so") ev.inj (by decide +kernel)) (ys := []) (lamS3_by (N := N__law_power_so) (sc := defScope st__law_power_so) (by decide +kernel)) (.none rfl (fun _ _ _ _ _ => rfl)) (fun A outer s H E f c1 hr => (se_fn (ok_power_of ev) hr (by omega) lam_takes (sa_cons (se_var (pv 1)) (sa_cons (se_var (pv 3)) sa_nil))))) (sa_cons (se_lst (k := false) (sa_cons se_str (sa_cons (se_var (pv 3)) sa_nil))) sa_nil))))))))))
theorem ok__law_power_so (ev : Ev K mg base) : Fn P w K mg base "_law_power_so" 8 2 f__law_power_so := by
  obtain ⟨fd, F⟩ := ev.says.def_ D__law_power_so rfl
  exact ⟨⟨fd, ["_law_bag_here", "_law_a"], fk__law_power_so ev F, (F.bindsN fun _ _ _ _ _ _ us hl => match us, hl with | [_, _], _ => rfl)⟩, ev.glo "_law_power_so", F.kp, chk_len⟩
abbrev N_law : List Str := ["_law_script", "_law_bag_here", "_law_lap", "_law_pick", "_law_turn", "_law_a", "_law_b", "_law_thing"]
abbrev st_law : Stmt := top 78
theorem sc_law : FnScope N_law ["_law_script"] (defScope st_law) := ⟨rfl, rfl, rfl, by decide +kernel, rfl, by decide +kernel, by decide +kernel⟩
def m_law : Sm := (sSeq (sSet 1 (eCall f__law_bag (aCons (eVar 0) aNil) [])) (sSeq (sFor (iRange1 (aCons (eC (.int 3)) aNil)) (gN 2) (sSeq (sPar 5 6 (eCall f__law_wide (aCons (eVar 1) aNil) []) (eCall f__law_wide (aCons (eVar 1) aNil) [])) (sSeq (sSet 3 (eCall f__law_draw (aCons (eVar 1) (aCons (eC (.int 8)) aNil)) [])) (sSeq (sIf (tOf (eBin eqD (eVar 3) (eC (.int 0)))) (sSet 6 (eVar 5)) (sIf (tOf (eBin eqD (eVar 3) (eC (.int 1)))) (sSet 6 (eCall f__law_neg (aCons (eVar 5) aNil) [])) (sIf (tOf (eBin eqD (eVar 3) (eC (.int 2)))) (sPar 5 6 (eCall f__law_number (aCons (eVar 1) aNil) []) (eCall f__law_number (aCons (eVar 1) aNil) [])) (sIf (tOf (eBin eqD (eVar 3) (eC (.int 3)))) (sSet 6 (eTup (aCons (eC (.int 0)) (aCons (eC (.int 1)) aNil)))) sNil)))) (sSeq (sIf (tOr (tNot (tOf (eCall f__law_deeds_so (aCons (eVar 5) (aCons (eVar 6) aNil)) []))) (tNot (tOf (eCall f__law_deeds_so (aCons (eVar 6) (aCons (eVar 5) aNil)) [])))) (sRet (eC (.bl false))) sNil) (sSeq (sIf (tOr (tNot (tOf (eCall f__law_ratio_so (aCons (eVar 1) (aCons (eCall f__law_big (aCons (eVar 1) aNil) []) (aCons (eCall f__law_big (aCons (eVar 1) aNil) []) aNil))) []))) (tNot (tOf (eCall f__law_ratio_so (aCons (eVar 1) (aCons (eBin ixD (eVar 5) (eC (.int 1))) (aCons (eBin ixD (eVar 6) (eC (.int 0))) aNil))) [])))) (sRet (eC (.bl false))) sNil) (sSeq (sIf (tOr (tNot (tOf (eCall f__law_power_so (aCons (eVar 1) (aCons (eVar 5) aNil)) []))) (tNot (tOf (eCall f__law_power_so (aCons (eVar 1) (aCons (eCall f__law_number (aCons (eVar 1) aNil) []) aNil)) [])))) (sRet (eC (.bl false))) sNil) (sFor (iRange1 (aCons (eC (.int 4)) aNil)) (gN 4) (sSeq (sSet 7 (eCall f__law_any (aCons (eVar 1) (aCons (eCall f__law_of (aCons (eVar 1) (aCons (eLst false (aCons (eVar 5) (aCons (eVar 6) (aCons (eTup (aCons (eC (.int 3)) (aCons (eC (.int 2)) aNil))) aNil)))) aNil)) []) aNil)) [])) (sIf (tNot (tOf (eCall (f__law_like 6) (aCons (eLst false (aCons (eCall f_is_fraction (aCons (eVar 7) aNil) []) (aCons (eCallK f_is_fraction 0 1 false aNil (aCons (eVar 7) aNil)) aNil))) (aCons (eLst false (aCons (eCall f__law_is (aCons (eVar 7) aNil) []) (aCons (eCall f__law_is (aCons (eVar 7) aNil) []) aNil))) aNil)) []))) (sRet (eC (.bl false))) sNil)))))))))) (sRet (eC (.bl true)))))
def f_law : List D → Sto → Res D := chk 1 (runDef 8 m_law)
theorem fk_law (ev : Ev K mg base) {fd : FuncData} (F : FunD K "law" "law" (defArgs st_law) (defBody st_law) (defScope st_law) [] [] (He.ga K "law") fd) : FnOk P w K mg base (CXp P w) 9 (He.ga K "law") fd ["_law_script"] (spM K 1 f_law) := by
  have h : spM K 1 f_law = spM K 1 (runDef 8 m_law) := runDef_chk
  rw [h]
  exact fn_sim (N := N_law) F sc_law fun cdv A outer s H E hr => (sss_cons (ss_set sc_law.nd (i := 1) rfl (by first | exact Or.inl rfl | exact Or.inr rfl) (se_fn (ok__law_bag ev) hr (by omega) cx_takes (sa_cons (se_var (pv 0)) sa_nil))) (sss_cons (ss_for cx_own rfl (si_range1 (ev.free "range") (sa_cons se_int sa_nil)) (sg_name (i := 2) sc_law.nd rfl (by first | exact Or.inl rfl | exact Or.inr rfl)) (sss_cons (ss_par (i := 5) (j := 6) rfl sc_law.nd rfl rfl (by decide) rfl rfl (se_fn (ok__law_wide ev) hr (by omega) cx_takes (sa_cons (se_var (pv 1)) sa_nil)) (se_fn (ok__law_wide ev) hr (by omega) cx_takes (sa_cons (se_var (pv 1)) sa_nil)) (by rfl)) (sss_cons (ss_set sc_law.nd (i := 3) rfl (by first | exact Or.inl rfl | exact Or.inr rfl) (se_fn (ok__law_draw ev) hr (by omega) cx_takes (sa_cons (se_var (pv 1)) (sa_cons se_int sa_nil)))) (sss_cons (ss_if (st_eq hr (se_var (pv 3)) se_int) (sss_one (ss_set sc_law.nd (i := 6) rfl (by first | exact Or.inl rfl | exact Or.inr rfl) (se_var (pv 5)))) (sss_one (ss_if (st_eq hr (se_var (pv 3)) se_int) (sss_one (ss_set sc_law.nd (i := 6) rfl (by first | exact Or.inl rfl | exact Or.inr rfl) (se_fn (ok__law_neg ev) hr (by omega) cx_takes (sa_cons (se_var (pv 5)) sa_nil)))) (sss_one (ss_if (st_eq hr (se_var (pv 3)) se_int) (sss_one (ss_par (i := 5) (j := 6) rfl sc_law.nd rfl rfl (by decide) rfl rfl (se_fn (ok__law_number ev) hr (by omega) cx_takes (sa_cons (se_var (pv 1)) sa_nil)) (se_fn (ok__law_number ev) hr (by omega) cx_takes (sa_cons (se_var (pv 1)) sa_nil)) (by rfl))) (sss_one (ss_if (st_eq hr (se_var (pv 3)) se_int) (sss_one (ss_set sc_law.nd (i := 6) rfl (by first | exact Or.inl rfl | exact Or.inr rfl) (se_tup (sa_cons se_int (sa_cons se_int sa_nil))))) sss_nil))))))) (sss_cons (ss_if (st_sw (sw_or (st_not (st_val (se_fn (ok__law_deeds_so ev) hr (by omega) cx_takes (sa_cons (se_var (pv 5)) (sa_cons (se_var (pv 6)) sa_nil))))) (sw_or1 (st_not (st_val (se_fn (ok__law_deeds_so ev) hr (by omega) cx_takes (sa_cons (se_var (pv 6)) (sa_cons (se_var (pv 5)) sa_nil)))))))) (sss_one (ss_ret se_bl)) sss_nil) (sss_cons (ss_if (st_sw (sw_or (st_not (st_val (se_fn (ok__law_ratio_so ev) hr (by omega) cx_takes (sa_cons (se_var (pv 1)) (sa_cons (se_fn (ok__law_big ev) hr (by omega) cx_takes (sa_cons (se_var (pv 1)) sa_nil)) (sa_cons (se_fn (ok__law_big ev) hr (by omega) cx_takes (sa_cons (se_var (pv 1)) sa_nil)) sa_nil)))))) (sw_or1 (st_not (st_val (se_fn (ok__law_ratio_so ev) hr (by omega) cx_takes (sa_cons (se_var (pv 1)) (sa_cons (se_ix (se_var (pv 5)) se_int) (sa_cons (se_ix (se_var (pv 6)) se_int) sa_nil))))))))) (sss_one (ss_ret se_bl)) sss_nil) (sss_cons (ss_if (st_sw (sw_or (st_not (st_val (se_fn (ok__law_power_so ev) hr (by omega) cx_takes (sa_cons (se_var (pv 1)) (sa_cons (se_var (pv 5)) sa_nil))))) (sw_or1 (st_not (st_val (se_fn (ok__law_power_so ev) hr (by omega) cx_takes (sa_cons (se_var (pv 1)) (sa_cons (se_fn (ok__law_number ev) hr (by omega) cx_takes (sa_cons (se_var (pv 1)) sa_nil)) sa_nil)))))))) (sss_one (ss_ret se_bl)) sss_nil) (sss_one (ss_for cx_own rfl (si_range1 (ev.free "range") (sa_cons se_int sa_nil)) (sg_name (i := 4) sc_law.nd rfl (by first | exact Or.inl rfl | exact Or.inr rfl)) (sss_cons (ss_set sc_law.nd (i := 7) rfl (by first | exact Or.inl rfl | exact Or.inr rfl) (se_fn (ok__law_any ev) hr (by omega) cx_takes (sa_cons (se_var (pv 1)) (sa_cons (se_fn (ok__law_of ev) hr (by omega) cx_takes (sa_cons (se_var (pv 1)) (sa_cons (se_lst (k := false) (sa_cons (se_var (pv 5)) (sa_cons (se_var (pv 6)) (sa_cons (se_tup (sa_cons se_int (sa_cons se_int sa_nil))) sa_nil)))) sa_nil))) sa_nil)))) (sss_one (ss_if (st_not (st_val (se_fn (ok__law_like ev 6) hr (by omega) cx_takes (sa_cons (se_lst (k := false) (sa_cons (se_fn (ok_is_fraction ev) hr (by omega) cx_takes (sa_cons (se_var (pv 7)) sa_nil)) (sa_cons (se_fnK0 (ks := ["value"]) (okk_is_fraction ev) hr (by omega) cx_takes (sk_cons (se_var (pv 7)) sk_nil) (by simp)) sa_nil))) (sa_cons (se_lst (k := false) (sa_cons (se_fn (ok__law_is ev) hr (by omega) cx_takes (sa_cons (se_var (pv 7)) sa_nil)) (sa_cons (se_fn (ok__law_is ev) hr (by omega) cx_takes (sa_cons (se_var (pv 7)) sa_nil)) sa_nil))) sa_nil))))) (sss_one (ss_ret se_bl)) sss_nil)))))))))))) (sss_one (ss_ret se_bl))))
theorem ok_law (ev : Ev K mg base) : Fn P w K mg base "law" 9 1 f_law := by
  obtain ⟨fd, F⟩ := ev.says.def_ D_law rfl
  exact ⟨⟨fd, ["_law_script"], fk_law ev F, (F.bindsN fun _ _ _ _ _ _ us hl => match us, hl with | [_], _ => rfl)⟩, ev.glo "law", F.kp, chk_len⟩
end K01

set_option linter.all false
set_option maxRecDepth 100000
set_option maxHeartbeats 2000000
namespace Sim
open PySem PySem.Spec PyProof.Rows L2
theorem eqD_int (a b : Int) (st : Sto) : eqD (.int a) (.int b) st = .ok (.bl (decide (a = b))) st := by
  show Res.ok (D.bl (a == b)) st = _
  rfl
theorem eqD_str (a b : Str) (st : Sto) (h1 : SeqAt.shaped (.str a) = true) (h2 : SeqAt.shaped (.str b) = true) : eqD (.str a) (.str b) st = .ok (.bl (decide (a = b))) st := by
  have e : eqD (.str a) (.str b) st = (if (SeqAt.shaped (.str a) && SeqAt.shaped (.str b)) = true then .ok (.bl (PyData.eqv (.str a) (.str b))) st else .bad) := rfl
  rw [e, h1, h2]
  rfl
theorem neD_bl (a b : Bool) (st : Sto) : neD (.bl a) (.bl b) st = .ok (.bl (a != b)) st := by
  cases a <;> cases b <;> rfl
@[simp] theorem eVar_def (i : Nat) (σ : Sl) (st : Sto) : eVar i σ st = (match σ[i]? with | some (some d) => .ok d st | _ => .bad) := rfl
@[simp] theorem eC_def (d : D) (σ : Sl) (st : Sto) : eC d σ st = .ok d st := rfl
theorem finR_le {n : Nat} {d : D} {st : Sto} (h : st.length ≤ n) : finR n d st = .ok d st := by unfold finR; rw [if_pos h]
end Sim
namespace K01
open PySem PySem.Spec PyProof.Rows L2 Sim
def bagL (xs : List Int) (i cur seed cnt : Int) : List D := [.lst (xs.map D.int), .int i, .int cur, .int seed, .int cnt]
structure BInv (o : Option O) : Prop where
  ex : ∃ (xs : List Int) (i cur seed cnt : Int), o = some (.lst (bagL xs i cur seed cnt)) ∧ 0 ≤ i ∧ 0 ≤ cur ∧ 0 ≤ seed ∧ seed < 2147483629 ∧ xs.length ≤ 63
section
variable (a b c d e v : D)
theorem ix0 : ixD (.ref 0) (.int 0) [some (.lst [a, b, c, d, e])] = .ok a [some (.lst [a, b, c, d, e])] := rfl
theorem ix1 : ixD (.ref 0) (.int 1) [some (.lst [a, b, c, d, e])] = .ok b [some (.lst [a, b, c, d, e])] := rfl
theorem ix2 : ixD (.ref 0) (.int 2) [some (.lst [a, b, c, d, e])] = .ok c [some (.lst [a, b, c, d, e])] := rfl
theorem ix3 : ixD (.ref 0) (.int 3) [some (.lst [a, b, c, d, e])] = .ok d [some (.lst [a, b, c, d, e])] := rfl
theorem ix4 : ixD (.ref 0) (.int 4) [some (.lst [a, b, c, d, e])] = .ok e [some (.lst [a, b, c, d, e])] := rfl
theorem sd1 : setD (.ref 0) (.int 1) v [some (.lst [a, b, c, d, e])] = some [some (.lst [a, v, c, d, e])] := rfl
theorem sd2 : setD (.ref 0) (.int 2) v [some (.lst [a, b, c, d, e])] = some [some (.lst [a, b, v, d, e])] := rfl
theorem sd3 : setD (.ref 0) (.int 3) v [some (.lst [a, b, c, d, e])] = some [some (.lst [a, b, c, v, e])] := rfl
theorem sd4 : setD (.ref 0) (.int 4) v [some (.lst [a, b, c, d, e])] = some [some (.lst [a, b, c, d, v])] := rfl
end
theorem lenI (xs : List Int) (st : Sto) (h : xs.length ≤ 63) : lenD [.lst (xs.map D.int)] st = .ok (.int xs.length) st := by
  have e : lenD [.lst (xs.map D.int)] st = .ok (.int ((xs.map D.int).length : Nat)) st := rfl
  rw [e, List.length_map]
theorem atX (xs : List Int) (i : Int) (h : 0 ≤ i) (h2 : i < xs.length) (st : Sto) : ∃ x, ixD (.lst (xs.map D.int)) (.int i) st = .ok (.int x) st := by
  have hl : i.toNat < xs.length := by omega
  refine ⟨xs[i.toNat], ?_⟩
  have e : ixD (.lst (xs.map D.int)) (.int i) st = (match atI (xs.map D.int) i with | some d => Res.ok d st | none => .bad) := rfl
  have e2 : atI (xs.map D.int) i = some (.int xs[i.toNat]) := by
    unfold atI ixN
    rw [if_pos h, if_pos (by rw [List.length_map]; exact h2)]
    simp [hl]
  rw [e, e2]
theorem mulC (i : Int) {j : Int} (h : j.natAbs < 2 ^ 64) : mulOk i j = true := by simp [mulOk, h]
theorem divC (i : Int) {j : Int} (h1 : 1 ≤ j) (h2 : j < 2 ^ 64) : divOk i j = true := by
  have : j.natAbs.log2 < 9000 := by
    have : j.natAbs < 2 ^ 64 := by omega
    have := (Nat.log2_lt (by omega : j.natAbs ≠ 0)).mpr this
    omega
  simp [divOk, this]; omega
theorem powC {i : Int} (h1 : 0 ≤ i) (h2 : i < 2147483629) : powOk i 3 = true := by
  have : i.natAbs < 2 ^ 64 := by omega
  simp [powOk, this]
theorem fmod_lt {a b : Int} (h : 1 ≤ b) : 0 ≤ a.fmod b ∧ a.fmod b < b := ⟨Int.fmod_nonneg_of_pos a (by omega), Int.fmod_lt_of_pos a (by omega)⟩
theorem fdiv_nn {a b : Int} (h : 0 ≤ a) (h2 : 1 ≤ b) : 0 ≤ a.fdiv b := Int.fdiv_nonneg h (by omega)
theorem intD_int (i : Int) (st : Sto) : intD [.int i] st = .ok (.int i) st := rfl
theorem draw {o : Option O} (h : BInv o) {L : Int} (h1 : 1 ≤ L) (h2 : L < 2 ^ 64) : ∃ (r : Int) (o' : Option O), f__law_draw [.ref 0, .int L] [o] = .ok (.int r) [o'] ∧ BInv o' ∧ 0 ≤ r ∧ r < L := by
  obtain ⟨xs, i, cur, seed, cnt, rfl, hi, hc, hs, hs2, hx⟩ := h.ex
  have fin : ∀ (cnt cur seed i : Int), 0 ≤ i → 0 ≤ cur → 0 ≤ seed → seed < 2147483629 → BInv (some (.lst (bagL xs i cur seed cnt))) := fun cnt cur seed i a b c d => ⟨xs, i, cur, seed, cnt, rfl, a, b, c, d, hx⟩
  have hL0 : L ≠ 0 := by omega
  have c1 : ∀ i, mulOk i 48271 = true := fun i => mulC i (by decide)
  have c2 : ∀ i, mulOk i 69621 = true := fun i => mulC i (by decide)
  have c3 : ∀ i, mulOk i 30103 = true := fun i => mulC i (by decide)
  have c4 : ∀ i, mulOk i 1299709 = true := fun i => mulC i (by decide)
  have c5 : ∀ i, mulOk i 67 = true := fun i => mulC i (by decide)
  have c6 : ∀ i, divOk i 97 = true := fun i => divC i (by decide) (by decide)
  have c7 : ∀ i, divOk i L = true := fun i => divC i h1 h2
  have c8 : powOk 10 18 = true := by decide +kernel
  by_cases hcur : cur = 0
  · subst hcur
    by_cases hlt : i < xs.length
    · obtain ⟨x, hx1⟩ := atX xs i hi hlt []
      have hat : ∀ st, ixD (.lst (xs.map D.int)) (.int i) st = .ok (.int x) st := fun st => by
        obtain ⟨y, hy⟩ := atX xs i hi hlt st
        have : y = x := by
          have e : ∀ st, ixD (.lst (xs.map D.int)) (.int i) st = (match atI (xs.map D.int) i with | some d => Res.ok d st | none => .bad) := fun _ => rfl
          rw [e] at hx1 hy
          cases q : atI (xs.map D.int) i with
          | none => rw [q] at hy; cases hy
          | some d =>
            rw [q] at hx1 hy
            cases hx1
            cases hy
            rfl
        rw [hy, this]
      by_cases hb : (10 : Int) ^ 18 ≤ x
      · have hp : (0 : Int) < x := by omega
        refine ⟨x.fmod L, _, ?_, fin (cnt + 1) (x.fdiv L) seed (i + 1) (by omega) (fdiv_nn (by omega) h1) hs hs2, (fmod_lt h1).1, (fmod_lt h1).2⟩
        have hb' : (1000000000000000000 : Int) ≤ x := by simpa using hb
        simp [f__law_draw, chk, runDef, m__law_draw, bagL, ix0, ix1, ix2, ix3, ix4, sd1, sd2, sd3, sd4, eqD_int, lenI, hx, hlt, hat, ltI, geI, gtI, modI, fdivI, mulI, powI, c8, hb', hp, hL0, c7, intD_int, finR_le]
      · have hb' : ¬ (1000000000000000000 : Int) ≤ x := by simpa using hb
        have m1 := fmod_lt (a := seed * 69621 + x.fmod 2147483549 * 30103 + 89) (b := 2147483629) (by decide)
        generalize hs1 : (seed * 69621 + x.fmod 2147483549 * 30103 + 89).fmod 2147483629 = s1 at m1
        have m2 := fmod_lt (a := s1 ^ 3 + (cnt + 1) * 1299709 + 60013) (b := 2147483629) (by decide)
        have p1 := powC m1.1 m1.2
        refine ⟨_, _, ?_, fin (cnt + 1) 0 _ (i + 1) (by omega) (by omega) m2.1 m2.2, (fmod_lt (a := ((s1 ^ 3 + (cnt + 1) * 1299709 + 60013).fmod 2147483629).fdiv 97 + ((s1 ^ 3 + (cnt + 1) * 1299709 + 60013).fmod 2147483629).fmod 7901 * 67) h1).1, (fmod_lt h1).2⟩
        simp [hlt, hat, hb', hs1, p1, f__law_draw, chk, runDef, m__law_draw, bagL, ix0, ix1, ix2, ix3, ix4, sd1, sd2, sd3, sd4, eqD_int, lenI, hx, ltI, geI, gtI, modI, fdivI, mulI, powI, c1, c2, c3, c4, c5, c6, c7, c8, hL0, intD_int, finR_le]
    · have m2 := fmod_lt (a := seed ^ 3 + (cnt + 1) * 1299709 + 60013) (b := 2147483629) (by decide)
      have p1 := powC hs hs2
      refine ⟨_, _, ?_, fin (cnt + 1) 0 _ i hi (by omega) m2.1 m2.2, (fmod_lt (a := ((seed ^ 3 + (cnt + 1) * 1299709 + 60013).fmod 2147483629).fdiv 97 + ((seed ^ 3 + (cnt + 1) * 1299709 + 60013).fmod 2147483629).fmod 7901 * 67) h1).1, (fmod_lt h1).2⟩
      simp [hlt, p1, f__law_draw, chk, runDef, m__law_draw, bagL, ix0, ix1, ix2, ix3, ix4, sd1, sd2, sd3, sd4, eqD_int, lenI, hx, ltI, geI, gtI, modI, fdivI, mulI, powI, c1, c2, c3, c4, c5, c6, c7, c8, hL0, intD_int, finR_le]
  · have hp : 0 < cur := by omega
    refine ⟨cur.fmod L, _, ?_, fin (cnt + 1) (cur.fdiv L) seed i hi (fdiv_nn (by omega) h1) hs hs2, (fmod_lt h1).1, (fmod_lt h1).2⟩
    simp [hcur, hp, f__law_draw, chk, runDef, m__law_draw, bagL, ix0, ix1, ix2, ix3, ix4, sd1, sd2, sd3, sd4, eqD_int, lenI, hx, ltI, geI, gtI, modI, fdivI, mulI, powI, c1, c2, c3, c4, c5, c6, c7, c8, hL0, intD_int, finR_le]
end K01
namespace K01
open PySem PySem.Spec PyProof.Rows L2 Sim
inductive Pl : Nat → D → Prop
  | non (n : Nat) : Pl n .non
  | bl (n : Nat) (b : Bool) : Pl n (.bl b)
  | int (n : Nat) (i : Int) : Pl n (.int i)
  | str (n : Nat) (s : Str) (h : SeqAt.shaped (.str s) = true) : Pl n (.str s)
  | lst (n : Nat) (ds : List D) (l : ds.length ≤ 1000) (h : ∀ d ∈ ds, Pl n d) : Pl (n + 1) (.lst ds)
  | tup (n : Nat) (ds : List D) (l : ds.length ≤ 1000) (h : ∀ d ∈ ds, Pl n d) : Pl (n + 1) (.tup ds)
theorem compM_map {f : D → Sto → Res (Option D)} {g : D → D} {st : Sto} : ∀ {ds : List D}, (∀ d ∈ ds, f d st = .ok (some (g d)) st) → compM f ds st = .ok (ds.map g) st
  | [], _ => rfl
  | d :: ds, h => by
    unfold compM
    rw [h d List.mem_cons_self]
    simp only [compM_map (fun e he => h e (List.mem_cons_of_mem _ he)), List.map_cons]
end K01
namespace K01
open PySem PySem.Spec PyProof.Rows L2 Sim
theorem eqD_blS (b : Bool) (st : Sto) : eqD (.bl b) (.bl b) st = .ok (.bl true) st := by cases b <;> rfl
theorem zip_mem : ∀ {as bs : List D} {d : D}, d ∈ zipD as bs → ∃ a b, d = .tup [a, b]
  | [], _, d, h => by simp [zipD] at h
  | _ :: _, [], d, h => by simp [zipD] at h
  | a :: as, b :: bs, d, h => by
    unfold zipD at h
    rcases List.mem_cons.mp h with q | q
    · exact ⟨a, b, q⟩
    · exact zip_mem q
theorem zip_self : ∀ {as : List D} {d : D}, d ∈ zipD as as → ∃ a ∈ as, d = .tup [a, a]
  | [], d, h => by simp [zipD] at h
  | a :: as, d, h => by
    unfold zipD at h
    rcases List.mem_cons.mp h with q | q
    · exact ⟨a, List.mem_cons_self, q⟩
    · obtain ⟨b, hb, e⟩ := zip_self q
      exact ⟨b, List.mem_cons_of_mem _ hb, e⟩
theorem allB_rep : ∀ {l : List D}, (∀ d ∈ l, d = .bl true) → ∃ bs : List Bool, Sim.allB l = some bs ∧ (bs.all fun b => b) = true
  | [], _ => ⟨[], rfl, rfl⟩
  | d :: l, h => by
    obtain ⟨bs, e1, e2⟩ := allB_rep (fun e he => h e (List.mem_cons_of_mem _ he))
    have e := h d List.mem_cons_self
    subst e
    exact ⟨true :: bs, by simp [Sim.allB, e1], by simp [e2]⟩
theorem like_seq {k : Nat} {ds : List D} {st : Sto} (l : ds.length ≤ 1000) (ih : ∀ d ∈ ds, f__law_like k [d, d] st = .ok (.bl true) st) (x : D) :
    ∃ ys : List D, compM (compF [2, 3] (gT 2 (gsCons (gN 2) (gsCons (gN 3) gsNil))) tTrue (eCall (chk 2 (runDef 4 (m__law_like k))) (aCons (eVar 2) (aCons (eVar 3) aNil)) []) [some x, some x, none, none]) (zipD ds ds) st = .ok ys st ∧ ys.length ≤ 16777216 ∧ allD [.lst ys] st = .ok (.bl true) st := by
  have e : compM (compF [2, 3] (gT 2 (gsCons (gN 2) (gsCons (gN 3) gsNil))) tTrue (eCall (chk 2 (runDef 4 (m__law_like k))) (aCons (eVar 2) (aCons (eVar 3) aNil)) []) [some x, some x, none, none]) (zipD ds ds) st = .ok ((zipD ds ds).map fun _ => .bl true) st := compM_map fun d hd => by
    obtain ⟨a, ha, rfl⟩ := zip_self hd
    have := ih a ha
    unfold f__law_like at this
    simp [compF, wipeD, this]
  obtain ⟨bs, e1, e2⟩ := allB_rep (l := (zipD ds ds).map fun _ => D.bl true) (fun d hd => by
    obtain ⟨_, _, q⟩ := List.mem_map.mp hd
    exact q.symm)
  refine ⟨_, e, by rw [List.length_map, zipD_len]; omega, ?_⟩
  show (match Sim.allB _ with | some bs => Res.ok (D.bl (bs.all fun b => b)) st | none => .bad) = _
  rw [e1]
  simp only [e2]
theorem like {n : Nat} {d : D} (h : Pl n d) : ∀ (m : Nat) (st : Sto), n < m → f__law_like m [d, d] st = .ok (.bl true) st := by
  induction h with
  | non n => intro m st hm; obtain ⟨k, rfl⟩ : ∃ k, m = k + 1 := ⟨m - 1, by omega⟩; simp [f__law_like, chk, runDef, m__law_like, isiD, tgOf, isB, isB2, tyNames, finR_le, neD_bl, isN]
  | bl n b => intro m st hm; obtain ⟨k, rfl⟩ : ∃ k, m = k + 1 := ⟨m - 1, by omega⟩; simp [f__law_like, chk, runDef, m__law_like, isiD, tgOf, isB, isB2, tyNames, finR_le, neD_bl, isN, eqD_blS]
  | int n i => intro m st hm; obtain ⟨k, rfl⟩ : ∃ k, m = k + 1 := ⟨m - 1, by omega⟩; simp [f__law_like, chk, runDef, m__law_like, isiD, tgOf, isB, isB2, tyNames, finR_le, neD_bl, isN, eqD_int]
  | str n s hs => intro m st hm; obtain ⟨k, rfl⟩ : ∃ k, m = k + 1 := ⟨m - 1, by omega⟩; simp [f__law_like, chk, runDef, m__law_like, isiD, tgOf, isB, isB2, tyNames, finR_le, neD_bl, isN, eqD_str _ _ _ hs hs]
  | lst n ds l h ih =>
    intro m st hm
    obtain ⟨k, rfl⟩ : ∃ k, m = k + 1 := ⟨m - 1, by omega⟩
    obtain ⟨ys, e1, e2, e3⟩ := like_seq l (fun d hd => ih d hd k st (by omega)) (.lst ds)
    have e4 : lenD [.lst ds] st = .ok (.int ds.length) st := rfl
    simp [f__law_like, chk, runDef, m__law_like, isiD, tgOf, isB, isB2, tyNames, finR_le, neD_bl, isN, eComp, e4, eqD_int, mkL, e2] at e1 e3 ⊢
    simp [e1, e2, e3, finR_le]
  | tup n ds l h ih =>
    intro m st hm
    obtain ⟨k, rfl⟩ : ∃ k, m = k + 1 := ⟨m - 1, by omega⟩
    obtain ⟨ys, e1, e2, e3⟩ := like_seq l (fun d hd => ih d hd k st (by omega)) (.tup ds)
    have e4 : lenD [.tup ds] st = .ok (.int ds.length) st := rfl
    simp [f__law_like, chk, runDef, m__law_like, isiD, tgOf, isB, isB2, tyNames, finR_le, neD_bl, isN, eComp, e4, eqD_int, mkL, e2] at e1 e3 ⊢
    simp [e1, e2, e3, finR_le]
end K01
set_option maxHeartbeats 2000000
namespace K01
open PySem PySem.Spec PyProof.Rows L2 Sim
open PySem.PyData (strOk)
theorem ok_app (a b : Str) (h1 : strOk a = true) (h2 : strOk b = true) : strOk (a ++ b) = true := by
  have e : strOk (a ++ b) = (a.cps ++ b.cps).all (· < 0x110000) := rfl
  rw [e, Array.all_append]
  exact Bool.and_eq_true_iff.mpr ⟨h1, h2⟩
theorem ok_join (s : Str) (hs : strOk s = true) : ∀ ss : List Str, (∀ x ∈ ss, strOk x = true) → strOk (Txt.join s ss) = true := by
  intro ss h
  have e : Txt.join s ss = Str.join s ss := StrLaws.glued_eq_join ..
  rw [e]
  induction ss with
  | nil => kernel_rfl
  | cons x r ih =>
    cases r with
    | nil => exact h x List.mem_cons_self
    | cons y r =>
      show strOk (x ++ s ++ Str.join s (y :: r)) = true
      exact ok_app _ _ (ok_app _ _ (h x List.mem_cons_self) hs) (ih (fun z hz => h z (List.mem_cons_of_mem _ hz)) (StrLaws.glued_eq_join ..))
theorem shaped_str {s : Str} (h : strOk s = true) : SeqAt.shaped (.str s) = true := by
  unfold SeqAt.shaped
  refine Bool.and_eq_true_iff.mpr ⟨h, rfl⟩
theorem ixL (ds : List D) (r : Int) (h : 0 ≤ r) (h2 : r < ds.length) (st : Sto) : ∃ d ∈ ds, ixD (.lst ds) (.int r) st = .ok d st := by
  have hl : r.toNat < ds.length := by omega
  refine ⟨ds[r.toNat], List.getElem_mem hl, ?_⟩
  have e : ixD (.lst ds) (.int r) st = (match atI ds r with | some d => Res.ok d st | none => .bad) := rfl
  have e2 : atI ds r = some ds[r.toNat] := by
    unfold atI ixN
    rw [if_pos h, if_pos h2]
    simp [hl]
  rw [e, e2]
theorem of_lst {o : Option O} (h : BInv o) {ds : List D} (h1 : 1 ≤ ds.length) (h2 : ds.length ≤ 1000) : ∃ d ∈ ds, ∃ o', f__law_of [.ref 0, .lst ds] [o] = .ok d [o'] ∧ BInv o' := by
  obtain ⟨r, o', e, hb, a1, a2⟩ := draw h (L := ds.length) (by omega) (by omega)
  obtain ⟨d, hd, e2⟩ := ixL ds r a1 a2 [o']
  have e4 : ∀ st, lenD [.lst ds] st = .ok (.int ds.length) st := fun _ => rfl
  refine ⟨d, hd, o', ?_, hb⟩
  simp [f__law_of, chk, runDef, m__law_of, e4, e, e2, finR_le]
theorem of_str {o : Option O} (h : BInv o) {z : Str} (h1 : 1 ≤ z.length) (h2 : z.length ≤ 1000) (hz : strOk z = true) : ∃ s o', f__law_of [.ref 0, .str z] [o] = .ok (.str s) [o'] ∧ BInv o' ∧ strOk s = true ∧ s.length = 1 := by
  obtain ⟨r, o', e, hb, a1, a2⟩ := draw h (L := z.length) (by omega) (by omega)
  have hsz : z.length = z.cps.toList.length := by rfl
  have hl : r.toNat < z.cps.toList.length := by omega
  have e4 : ∀ st, lenD [.str z] st = .ok (.int z.length) st := fun st => by
    have q : lenD [.str z] st = if z.length ≤ line then .ok (.int (z.length : Nat)) st else .bad := rfl
    have hln : line = 16777216 := rfl
    rw [q, if_pos (by omega)]
  have e5 : ixD (.str z) (.int r) [o'] = .ok (.str ⟨#[z.cps.toList[r.toNat]]⟩) [o'] := by
    have q : ixD (.str z) (.int r) [o'] = if z.length ≤ line then (match atI z.cps.toList r with | some c => Res.ok (.str ⟨#[c]⟩) [o'] | none => .bad) else .bad := rfl
    have q2 : atI z.cps.toList r = some z.cps.toList[r.toNat] := by
      unfold atI ixN
      rw [if_pos a1, if_pos (by omega)]
      simp at hl
      simp [hl]
    have hln : line = 16777216 := rfl
    rw [q, if_pos (by omega), q2]
  refine ⟨⟨#[z.cps.toList[r.toNat]]⟩, o', ?_, hb, ?_, rfl⟩
  · have e' : f__law_draw [D.ref 0, D.int (z.length : Int)] [o] = .ok (.int r) [o'] := e
    simp [f__law_of, chk, runDef, m__law_of, e4, e', e5, finR_le]
  · have q := Array.all_eq_true.mp hz r.toNat (by simpa using hl)
    simpa [strOk] using q
end K01
namespace K01
open PySem PySem.Spec PyProof.Rows L2 Sim
theorem bagLoop (x : D) : ∀ (ns : List Int) (seed : Int) (y : Option D), 0 ≤ seed → seed < 2147483629 → ∃ (seed' : Int) (y' : Option D), Sim.forM (inTurn (gN 2) (sSet 1 (eBin modI (eCB intD (aCons (eBin addD (eBin addD (eBin mulI (eVar 1) (eC (.int 48271))) (eBin modI (eCB intD (aCons (eVar 2) aNil)) (eC (.int 2147483587)))) (eC (.int 307))) aNil)) (eC (.int 2147483629))))) (ns.map D.int) [some x, some (.int seed), y] [] = .nx [some x, some (.int seed'), y'] [] ∧ 0 ≤ seed' ∧ seed' < 2147483629
  | [], seed, y, h1, h2 => ⟨seed, y, rfl, h1, h2⟩
  | n :: ns, seed, y, h1, h2 => by
    have m := fmod_lt (a := seed * 48271 + n.fmod 2147483587 + 307) (b := 2147483629) (by decide)
    obtain ⟨s', y', e, a, b⟩ := bagLoop x ns _ (some (.int n)) m.1 m.2
    refine ⟨s', y', ?_, a, b⟩
    have c1 : ∀ i, mulOk i 48271 = true := fun i => mulC i (by decide)
    rw [← e]
    simp [Sim.forM, inTurn, c1, mulI, modI, intD_int]
theorem bag (ns : List Int) (hn : ns.length ≤ 63) (x : D) (hx : x = .scr (ns.map D.int) ∨ x = .lst (ns.map D.int)) : ∃ o, f__law_bag [x] [] = .ok (.ref 0) [o] ∧ BInv o := by
  obtain ⟨s', y', e, a, b⟩ := bagLoop x ns 13960 none (by decide) (by decide)
  have hc : slD false x none (some 63) [] = .ok (.lst (ns.map D.int)) [] := by
    have q : Sim.cutD (ns.map D.int) none (some 63) = ns.map D.int := by
      unfold Sim.cutD
      have l : (ns.map D.int).length = ns.length := List.length_map ..
      have e1 : HT.sIx (ns.map D.int).length 0 none = 0 := rfl
      have e2 : ns.length ≤ HT.sIx (ns.map D.int).length (ns.map D.int).length (some 63) := by
        rw [l]
        have q := HT.sIx_nat ns.length ns.length 63
        have q : HT.sIx ns.length ns.length (some 63) = min 63 ns.length := q
        rw [q]; omega
      rw [e1, List.drop_zero, List.take_of_length_le]
      omega
    have q2 : slD false x none (some 63) [] = mkL false (Sim.cutD (ns.map D.int) none (some 63)) [] := by rcases hx with rfl | rfl <;> rfl
    rw [q2, q]
    have : ns.length ≤ 16777216 := by omega
    simp [mkL, line, this]
  have hl : ∀ st, listD false [.lst (ns.map D.int)] st = .ok (.lst (ns.map D.int)) st := fun st => by
    have q : listD false [.lst (ns.map D.int)] st = mkL false (ns.map D.int) st := rfl
    have : ns.length ≤ 16777216 := by omega
    rw [q]
    simp [mkL, line, this]
  refine ⟨some (.lst (bagL ns 0 0 s' 0)), ?_, ns, 0, 0, s', 0, rfl, by decide, by decide, a, b, hn⟩
  simp only [f__law_bag, chk, runDef, m__law_bag]
  simp [eSl, hc, e, hl, mkL, line, bagL]
  rfl
end K01

set_option linter.all false
set_option maxRecDepth 100000
set_option maxHeartbeats 2000000
namespace Sim
open PySem PySem.Spec PyProof.Rows L2
theorem log2_lt' {n a : Nat} (h : n < 2 ^ a) (ha : 0 < a) : n.log2 < a := by
  by_cases e : n = 0
  · subst e; simpa using ha
  · exact (Nat.log2_lt e).mpr h
theorem mulB {i j : Int} {a b : Nat} (h1 : i.natAbs < 2 ^ a) (h2 : j.natAbs < 2 ^ b) (h : a + b ≤ 10000000) : mulOk i j = true := by
  have g1 := log2_lt' (a := a + 1) (Nat.lt_of_lt_of_le h1 (Nat.pow_le_pow_right (by decide) (by omega))) (by omega)
  have g2 := log2_lt' (a := b + 1) (Nat.lt_of_lt_of_le h2 (Nat.pow_le_pow_right (by decide) (by omega))) (by omega)
  have : i.natAbs.log2 + j.natAbs.log2 < 100000000 := by omega
  simp [mulOk, this]
theorem divB {i j : Int} {a : Nat} (h0 : j ≠ 0) (h1 : j.natAbs < 2 ^ a) (h : a ≤ 8000) : divOk i j = true := by
  have g1 := log2_lt' (a := a + 1) (Nat.lt_of_lt_of_le h1 (Nat.pow_le_pow_right (by decide) (by omega))) (by omega)
  have : j.natAbs.log2 < 9000 := by omega
  simp [divOk, this, h0]
section
variable (i j : Int) (st : Sto)
@[simp] theorem gtI_int : gtI (.int i) (.int j) st = .ok (.bl (decide (j < i))) st := rfl
@[simp] theorem ltI_int : ltI (.int i) (.int j) st = .ok (.bl (decide (i < j))) st := rfl
@[simp] theorem leI_int : leI (.int i) (.int j) st = .ok (.bl (decide (i ≤ j))) st := rfl
@[simp] theorem geI_int : geI (.int i) (.int j) st = .ok (.bl (decide (j ≤ i))) st := rfl
@[simp] theorem subI_int : subI (.int i) (.int j) st = .ok (.int (i - j)) st := rfl
theorem mulI_int (h : mulOk i j = true) : mulI (.int i) (.int j) st = .ok (.int (i * j)) st := by simp [mulI, iOpC, h]
theorem fdivI_int (h : divOk i j = true) : fdivI (.int i) (.int j) st = .ok (.int (i.fdiv j)) st := by simp [fdivI, iOpC, h]
theorem modI_int (h : j ≠ 0) : modI (.int i) (.int j) st = .ok (.int (i.fmod j)) st := by simp [modI, iOpC, h]
theorem powI_int (h : powOk i j = true) : powI (.int i) (.int j) st = .ok (.int (i ^ j.toNat)) st := by simp [powI, iOpC, h]
theorem shlI_int (h : powOk i j = true) : shlI (.int i) (.int j) st = .ok (.int (i * 2 ^ j.toNat)) st := by simp [shlI, iOpC, h]
theorem absI (i : Int) : (if i < 0 then -i else i) = ((i.natAbs : Nat) : Int) := by split <;> omega
end
theorem powN (a k : Nat) : ((a : Int)) ^ k = ((a ^ k : Nat) : Int) := by simp
theorem intsL_cons (lo : Int) (n : Nat) : intsL lo (n + 1) = .int lo :: intsL (lo + 1) n := by
  unfold intsL
  rw [List.range_succ_eq_map, List.map_cons, List.map_map]
  simp only [Int.natCast_zero, Int.add_zero]
  congr 1
  refine List.map_congr_left fun i _ => ?_
  simp only [Function.comp]
  congr 1
  omega
theorem natAbs_lt_mul {x y : Int} {a b : Nat} (h1 : x.natAbs < 2 ^ a) (h2 : y.natAbs < 2 ^ b) : (x * y).natAbs < 2 ^ (a + b) := by
  rw [Int.natAbs_mul, Nat.pow_add]
  exact Nat.mul_lt_mul'' h1 h2
end Sim
namespace K01
open PySem PySem.Spec PyProof.Rows L2 Sim
/-! ### lowest terms -/
theorem lowLoop (p q : D) (st : Sto) : ∀ (n b a : Nat), b < n → whileM (tOf (eBin gtI (eVar 3) (eC (.int 0)))) (sPar 2 3 (eVar 3) (eBin modI (eCB intD (aCons (eVar 2) aNil)) (eVar 3))) n [some p, some q, some (.int (a : Nat)), some (.int (b : Nat))] st = .nx [some p, some q, some (.int (Nat.gcd a b : Nat)), some (.int 0)] st
  | 0, b, a, h => absurd h (Nat.not_lt_zero _)
  | n + 1, b, a, h => by
    unfold whileM
    by_cases hb : b = 0
    · subst hb
      simp
    · have hb2 : (0 : Int) < (b : Int) := by omega
      have hb3 : ¬ ((b : Int) = 0) := by omega
      have hm : ((a : Int)).fmod b = ((a % b : Nat) : Int) := by
        rw [Int.fmod_eq_emod_of_nonneg _ (by omega)]
        simp
      have ih := lowLoop p q st n (a % b) b (Nat.lt_of_lt_of_le (Nat.mod_lt a (by omega)) (by omega))
      rw [Nat.gcd_comm b (a % b), ← Nat.gcd_rec, Nat.gcd_comm] at ih
      have hq : modI (.int (a : Nat)) (.int (b : Nat)) st = .ok (.int ((a % b : Nat) : Int)) st := by rw [modI_int _ _ _ hb3, hm]
      simp [intD_int, hq, Nat.pos_of_ne_zero hb, hb]
      exact ih
theorem low (p q : Int) (hq : q ≠ 0) {a : Nat} (hb : q.natAbs < 2 ^ a) (ha : a ≤ 8000) : ∃ P Q : Int, (∀ st, f__law_low [.int p, .int q] st = .ok (.tup [.int P, .int Q]) st) ∧ 1 ≤ Q ∧ Nat.gcd P.natAbs Q.natAbs = 1 ∧ P.natAbs ≤ p.natAbs ∧ Q.natAbs ≤ q.natAbs ∧ (Nat.gcd p.natAbs q.natAbs = 1 → 0 < q → P = p ∧ Q = q) ∧ (0 ≤ p → 0 < q → 0 ≤ P) ∧ (Nat.gcd p.natAbs q.natAbs = 1 → q < 0 → P = -p ∧ Q = -q) ∧ (∀ st, f_ratio [.int p, .int q] st = .ok (.tup [.int P, .int Q]) st) := by
  let g := Nat.gcd p.natAbs q.natAbs
  have hg : 0 < g := Nat.gcd_pos_of_pos_right _ (by omega)
  have hgq : g ≤ q.natAbs := Nat.gcd_le_right _ (by omega)
  let s : Int := if q < 0 then -(g : Int) else g
  have hs : s.natAbs = g := by
    show (if q < 0 then -(g : Int) else (g : Int)).natAbs = g
    split <;> omega
  have hs0 : s ≠ 0 := by omega
  obtain ⟨m, hm⟩ : (s : Int) ∣ p := Int.natAbs_dvd_natAbs.mp (by rw [hs]; exact Nat.gcd_dvd_left _ _)
  obtain ⟨n, hn⟩ : (s : Int) ∣ q := Int.natAbs_dvd_natAbs.mp (by rw [hs]; exact Nat.gcd_dvd_right _ _)
  have e1 : p.fdiv s = m := by rw [hm]; exact Int.mul_fdiv_cancel_left _ hs0
  have e2 : q.fdiv s = n := by rw [hn]; exact Int.mul_fdiv_cancel_left _ hs0
  have d : ∀ i, divOk i s = true := fun i => divB hs0 (a := a) (by omega) ha
  have hmg : p.natAbs = g * m.natAbs := by rw [hm, Int.natAbs_mul, hs]
  have hng : q.natAbs = g * n.natAbs := by rw [hn, Int.natAbs_mul, hs]
  have hgcd : Nat.gcd m.natAbs n.natAbs = 1 := by
    have z : g = g * Nat.gcd m.natAbs n.natAbs := by
      rw [← Nat.gcd_mul_left, ← hmg, ← hng]
    have : g * Nat.gcd m.natAbs n.natAbs = g * 1 := by omega
    exact Nat.eq_of_mul_eq_mul_left hg this
  have hn1 : 1 ≤ n := by
    by_cases h : q < 0
    · have hs1 : s = -(g : Int) := if_pos h
      rw [hs1] at hn
      by_cases z : n ≤ 0
      · have : 0 ≤ -(g : Int) * n := Int.mul_nonneg_of_nonpos_of_nonpos (by omega) z
        omega
      · omega
    · have hs1 : s = (g : Int) := if_neg h
      rw [hs1] at hn
      by_cases z : n ≤ 0
      · have : (g : Int) * n ≤ 0 := Int.mul_nonpos_of_nonneg_of_nonpos (by omega) z
        omega
      · omega
  refine ⟨m, n, fun st => ?_, hn1, hgcd, ?_, ?_, fun h1 h2 => ?_, fun h1 h2 => ?_, fun h1 h2 => ?_, fun st => ?_⟩
  · have lp := lowLoop (.int p) (.int q) st (slotN 3 [some (.int p), some (.int q), some (.int (p.natAbs : Nat)), some (.int (q.natAbs : Nat))]) q.natAbs p.natAbs (by
      show q.natAbs < ((q.natAbs : Nat) : Int).natAbs + 2
      omega)
    simp only [f__law_low, chk, runDef, m__law_low]
    simp [absI, sWhile, w__law_low_418, lp]
    by_cases h : q < 0
    · have hs1 : s = -(g : Int) := if_pos h
      simp [h]
      have d1 : ∀ i, divOk i (-((p.natAbs.gcd q.natAbs : Nat) : Int)) = true := fun i => by rw [← show s = -((p.natAbs.gcd q.natAbs : Nat) : Int) from hs1]; exact d i
      have e1' : p.fdiv (-((p.natAbs.gcd q.natAbs : Nat) : Int)) = m := by rw [← show s = -((p.natAbs.gcd q.natAbs : Nat) : Int) from hs1]; exact e1
      have e2' : q.fdiv (-((p.natAbs.gcd q.natAbs : Nat) : Int)) = n := by rw [← show s = -((p.natAbs.gcd q.natAbs : Nat) : Int) from hs1]; exact e2
      simp [fdivI_int, d1, e1', e2', finR_le, line]
    · have hs1 : s = (g : Int) := if_neg h
      simp [h]
      have d1 : ∀ i, divOk i (((p.natAbs.gcd q.natAbs : Nat) : Int)) = true := fun i => by rw [← show s = ((p.natAbs.gcd q.natAbs : Nat) : Int) from hs1]; exact d i
      have e1' : p.fdiv (((p.natAbs.gcd q.natAbs : Nat) : Int)) = m := by rw [← show s = ((p.natAbs.gcd q.natAbs : Nat) : Int) from hs1]; exact e1
      have e2' : q.fdiv (((p.natAbs.gcd q.natAbs : Nat) : Int)) = n := by rw [← show s = ((p.natAbs.gcd q.natAbs : Nat) : Int) from hs1]; exact e2
      simp [fdivI_int, d1, e1', e2', finR_le, line]
  · rw [hmg]; exact Nat.le_mul_of_pos_left _ hg
  · rw [hng]; exact Nat.le_mul_of_pos_left _ hg
  · have hs1 : s = (g : Int) := if_neg (by omega)
    have : s = 1 := by rw [hs1]; show ((Nat.gcd p.natAbs q.natAbs : Nat) : Int) = 1; omega
    rw [this] at hm hn
    omega
  · have hs1 : s = (g : Int) := if_neg (by omega)
    rw [hs1] at hm
    by_cases z : m < 0
    · have : (g : Int) * m < 0 := Int.mul_neg_of_pos_of_neg (by omega) z
      omega
    · omega
  · have hs1 : s = -(g : Int) := if_pos h2
    have : s = -1 := by rw [hs1]; show -((Nat.gcd p.natAbs q.natAbs : Nat) : Int) = -1; omega
    rw [this] at hm hn
    omega
  · obtain ⟨gi, hgi⟩ : ∃ gi : Int, gi = ((Nat.gcd p.natAbs q.natAbs : Nat) : Int) := ⟨_, rfl⟩
    have hgg : ∀ st, gcdD [.int p, .int q] st = .ok (.int gi) st := fun st => by rw [hgi]; exact gcdD_int p q st
    have hga : gi.natAbs = g := by rw [hgi]; rfl
    have hgi' : gi = (g : Int) := hgi
    have d1 : ∀ i, divOk i gi = true := fun i => divB (by omega) (a := a) (by omega) ha
    have nm : ∀ i st, negI (.int i) st = .ok (.int (-i)) st := fun _ _ => rfl
    simp only [f_ratio, chk, runDef, m_ratio]
    by_cases h : q < 0
    · have hs1 : s = -gi := by rw [hgi']; exact if_pos h
      rw [hs1] at hm hn
      have k1 : (-p).fdiv gi = m := by
        have : -p = gi * m := by rw [hm, Int.neg_mul, Int.neg_neg]
        rw [this]; exact Int.mul_fdiv_cancel_left _ (by omega)
      have k2 : (-q).fdiv gi = n := by
        have : -q = gi * n := by rw [hn, Int.neg_mul, Int.neg_neg]
        rw [this]; exact Int.mul_fdiv_cancel_left _ (by omega)
      simp [-gcdD_int, eqD_int, hq, hgg, h, nm, fdivI_int _ _ _ (d1 _), k1, k2, finR_le, line]
    · have hs1 : s = gi := by rw [hgi']; exact if_neg h
      rw [hs1] at hm hn
      have k1 : p.fdiv gi = m := by rw [hm]; exact Int.mul_fdiv_cancel_left _ (by omega)
      have k2 : q.fdiv gi = n := by rw [hn]; exact Int.mul_fdiv_cancel_left _ (by omega)
      simp [-gcdD_int, eqD_int, hq, hgg, h, nm, fdivI_int _ _ _ (d1 _), k1, k2, finR_le, line]
end K01

set_option linter.all false
set_option maxRecDepth 100000
set_option maxHeartbeats 2000000
namespace K01
open PySem PySem.Spec PyProof.Rows L2 Sim
/-! ### powers by loops -/
theorem raisedLoop (k : D) (a0 a1 : Int) (st : Sto) {A B : Nat} (hA : a0.natAbs < 2 ^ A) (hB : a1.natAbs < 2 ^ B) : ∀ (l : List D) (o : Option D) (x y : Int) (X Y : Nat), x.natAbs < 2 ^ X → y.natAbs < 2 ^ Y → X + l.length * A ≤ 1000000 → Y + l.length * B ≤ 1000000 → A ≤ 1000000 → B ≤ 1000000 →
    ∃ o', Sim.forM (inTurn (gN 2) (sPar 3 4 (eBin mulI (eVar 3) (eBin ixD (eVar 0) (eC (.int 0)))) (eBin mulI (eVar 4) (eBin ixD (eVar 0) (eC (.int 1)))))) l [some (.tup [.int a0, .int a1]), some k, o, some (.int x), some (.int y)] st = .nx [some (.tup [.int a0, .int a1]), some k, o', some (.int (x * a0 ^ l.length)), some (.int (y * a1 ^ l.length))] st
  | [], o, x, y, X, Y, _, _, _, _, _, _ => ⟨o, by simp [Sim.forM]⟩
  | d :: l, o, x, y, X, Y, hx, hy, h1, h2, h3, h4 => by
    rw [List.length_cons, Nat.succ_mul] at h1 h2
    obtain ⟨o', ih⟩ := raisedLoop k a0 a1 st hA hB l (some d) (x * a0) (y * a1) (X + A) (Y + B) (natAbs_lt_mul hx hA) (natAbs_lt_mul hy hB) (by omega) (by omega) h3 h4
    have m1 : mulOk x a0 = true := mulB hx hA (by omega)
    have m2 : mulOk y a1 = true := mulB hy hB (by omega)
    have i0 : ixD (.tup [.int a0, .int a1]) (.int 0) st = .ok (.int a0) st := rfl
    have i1 : ixD (.tup [.int a0, .int a1]) (.int 1) st = .ok (.int a1) st := rfl
    refine ⟨o', ?_⟩
    unfold Sim.forM
    simp [inTurn, i0, i1, mulI_int _ _ _ m1, mulI_int _ _ _ m2]
    rw [ih, Int.pow_succ', Int.pow_succ', ← Int.mul_assoc, ← Int.mul_assoc]
theorem big_nat {k : Nat} {i : Int} (hi : i = (k : Nat)) (h : k < 1000000) : (big i) = true := by
  subst hi
  unfold big
  simp
  omega
theorem raised (a0 a1 : Int) (k : Nat) (i : Int) (hi : i = (k : Nat)) {A B : Nat} (hA : a0.natAbs < 2 ^ A) (hB : a1.natAbs < 2 ^ B) (h1 : k * A ≤ 900000) (h2 : k * B ≤ 900000) (h3 : A ≤ 900000) (h4 : B ≤ 900000) (hk : k < 1000000) (st : Sto) : f__law_raised [.tup [.int a0, .int a1], .int i] st = .ok (.tup [.int (a0 ^ k), .int (a1 ^ k)]) st := by
  obtain ⟨o', e⟩ := raisedLoop (.int i) a0 a1 st hA hB (intsL 0 k) none 1 1 1 1 (by decide) (by decide) (by rw [intsL_len]; omega) (by rw [intsL_len]; omega) (by omega) (by omega)
  rw [intsL_len] at e
  simp only [f__law_raised, chk, runDef, m__law_raised]
  have ht : i.toNat = k := by omega
  simp [big_nat hi hk, line, ht, e, finR_le]
theorem powLoop (v n : D) (b : Int) (st : Sto) {A : Nat} (hA : b.natAbs < 2 ^ A) (hv : v = .int b) : ∀ (l : List D) (o : Option D) (x : Int) (X : Nat), x.natAbs < 2 ^ X → X + l.length * A ≤ 1000000 → A ≤ 1000000 →
    ∃ o', Sim.forM (inTurn (gN 3) (sSet 2 (eBin mulI (eVar 2) (eVar 0)))) l [some v, some n, some (.int x), o] st = .nx [some v, some n, some (.int (x * b ^ l.length)), o'] st
  | [], o, x, X, _, _, _ => ⟨o, by simp [Sim.forM]⟩
  | d :: l, o, x, X, hx, h1, h3 => by
    subst hv
    rw [List.length_cons, Nat.succ_mul] at h1
    obtain ⟨o', ih⟩ := powLoop (.int b) n b st hA rfl l (some d) (x * b) (X + A) (natAbs_lt_mul hx hA) (by omega) h3
    have m1 : mulOk x b = true := mulB hx hA (by omega)
    refine ⟨o', ?_⟩
    unfold Sim.forM
    simp [inTurn, mulI_int _ _ _ m1]
    rw [ih, Int.pow_succ', ← Int.mul_assoc]
theorem wpow (b : Int) (k : Nat) (i : Int) (hi : i = (k : Nat)) {A : Nat} (hA : b.natAbs < 2 ^ A) (h1 : k * A ≤ 900000) (h3 : A ≤ 900000) (hk : k < 1000000) (st : Sto) : f__whole_power [.int b, .int i] st = .ok (.int (b ^ k)) st := by
  obtain ⟨o', e⟩ := powLoop (.int b) (.int i) b st hA rfl (intsL 0 k) none 1 1 (by decide) (by rw [intsL_len]; omega) (by omega)
  rw [intsL_len] at e
  simp only [f__whole_power, chk, runDef, m__whole_power]
  have ht : i.toNat = k := by omega
  simp [big_nat hi hk, ht, e, finR_le]
end K01

set_option linter.all false
set_option maxRecDepth 100000
set_option maxHeartbeats 2000000
namespace K01
open PySem PySem.Spec PyProof.Rows L2 Sim
theorem two_le_line : (2 ≤ line) = True := eq_true (by decide)
theorem one_le_line : (1 ≤ line) = True := eq_true (by decide)
theorem le_line {n : Nat} (h : n ≤ 10000) : (n ≤ line) = True := eq_true (Nat.le_trans h (by decide))
theorem catE (a b : List D) (st : Sto) : catL false (.lst a) (.lst b) st = mkL false (a ++ b) st := rfl
theorem mkF (a : List D) (h : a.length ≤ 10000) (st : Sto) : mkL false a st = .ok (.lst a) st := by
  unfold mkL
  rw [if_pos (Nat.le_trans h (by decide))]
theorem p107 (st : Sto) : powI (.int 10) (.int 7) st = .ok (.int 10000000) st := by
  rw [powI_int _ _ _ (by decide +kernel)]
  rfl
theorem of_ints {o : Option O} (h : BInv o) {ns : List Int} (h1 : 1 ≤ ns.length) (h2 : ns.length ≤ 1000) : ∃ i ∈ ns, ∃ o', f__law_of [.ref 0, .lst (ns.map .int)] [o] = .ok (.int i) [o'] ∧ BInv o' := by
  obtain ⟨d, hd, o', e, hb⟩ := of_lst h (ds := ns.map .int) (by simpa using h1) (by simpa using h2)
  obtain ⟨i, hi, rfl⟩ := List.mem_map.mp hd
  exact ⟨i, hi, o', e, hb⟩
theorem bigLoop : ∀ (l : List D) (o : Option O) (x : Option D) (p : Int) (B : Int), BInv o → 0 ≤ p → p < B → ∃ (p' : Int) (o' : Option O) (x' : Option D), Sim.forM (inTurn (gN 2) (sSet 1 (eBin addD (eBin mulI (eVar 1) (eBin powI (eC (.int 10)) (eC (.int 7)))) (eCall f__law_draw (aCons (eVar 0) (aCons (eBin powI (eC (.int 10)) (eC (.int 7))) aNil)) [])))) l [some (.ref 0), some (.int p), x] [o] = .nx [some (.ref 0), some (.int p'), x'] [o'] ∧ BInv o' ∧ 0 ≤ p' ∧ p' < B * 10000000 ^ l.length
  | [], o, x, p, B, h, h0, h1 => ⟨p, o, x, rfl, h, h0, by simpa using h1⟩
  | d :: l, o, x, p, B, h, h0, h1 => by
    obtain ⟨r, o1, e, hb, r0, r1⟩ := draw h (L := 10000000) (by decide) (by decide)
    obtain ⟨p', o', x', e2, hb2, q0, q1⟩ := bigLoop l o1 (some d) (p * 10000000 + r) (B * 10000000) hb (by omega) (by omega)
    refine ⟨p', o', x', ?_, hb2, q0, ?_⟩
    · rw [← e2]
      conv => lhs; unfold Sim.forM
      simp [inTurn, p107, mulI_int _ _ _ (mulC p (j := 10000000) (by decide)), e]
    · rw [List.length_cons, Int.pow_succ', ← Int.mul_assoc]
      exact q1
theorem lst_ints (k : Bool) (ns : List Int) : (ns.map D.int) = ns.map D.int := rfl
theorem lawbig {o : Option O} (h : BInv o) : ∃ (p : Int) (o' : Option O), f__law_big [.ref 0] [o] = .ok (.int p) [o'] ∧ BInv o' ∧ p.natAbs < 10 ^ 60 := by
  obtain ⟨i, hi, o1, e1, h1⟩ := of_ints h (ns := [2, 4, 10, 10, 100, 10000]) (by decide) (by decide)
  have hi2 : 1 ≤ i ∧ i ≤ 10000 := by
    simp at hi
    omega
  obtain ⟨p, o2, e2, h2, p0, p1⟩ := draw h1 (L := i) hi2.1 (by omega)
  obtain ⟨n, hn, o3, e3, h3⟩ := of_ints h2 (ns := [0, 0, 0, 0, 1, 2, 8]) (by decide) (by decide)
  have hn2 : 0 ≤ n ∧ n ≤ 8 := by
    simp at hn
    omega
  obtain ⟨p', o4, x', e4, h4, q0, q1⟩ := bigLoop (intsL 0 n.toNat) o3 none p 10000 h3 p0 (by omega)
  obtain ⟨r, o5, e5, h5, r0, r1⟩ := draw h4 (L := 2) (by decide) (by decide)
  rw [intsL_len] at q1
  have hb : p' < 10 ^ 60 := by
    have hmono : ∀ m : Nat, m ≤ 8 → (10000 : Int) * 10000000 ^ m ≤ 10 ^ 60 := by
      intro m hm
      have : m = 0 ∨ m = 1 ∨ m = 2 ∨ m = 3 ∨ m = 4 ∨ m = 5 ∨ m = 6 ∨ m = 7 ∨ m = 8 := by omega
      rcases this with rfl | rfl | rfl | rfl | rfl | rfl | rfl | rfl | rfl <;> decide
    have := hmono n.toNat (by omega)
    omega
  have hbig : big n = true := big_nat (k := n.toNat) (by omega) (by omega)
  simp only [List.map_cons, List.map_nil] at e1 e3
  have l6 : ∀ (a b c d e f : D) st, mkL false [a, b, c, d, e, f] st = .ok (.lst [a, b, c, d, e, f]) st := fun _ _ _ _ _ _ _ => rfl
  have l7 : ∀ (a b c d e f g : D) st, mkL false [a, b, c, d, e, f, g] st = .ok (.lst [a, b, c, d, e, f, g]) st := fun _ _ _ _ _ _ _ _ => rfl
  refine ⟨if r = 1 then -p' else p', o5, ?_, h5, by split <;> omega⟩
  simp only [f__law_big, chk, runDef, m__law_big]
  by_cases hr : r = 1
  · simp [l6, l7, e1, e2, e3, hbig, e4, e5, eqD_int, hr, finR_le]
  · simp [l6, l7, e1, e2, e3, hbig, e4, e5, eqD_int, hr, finR_le]
/-- a fraction, with its size -/
def Fr (B : Nat) (d : D) : Prop := ∃ P Q : Int, d = .tup [.int P, .int Q] ∧ 1 ≤ Q ∧ Q.natAbs < B ∧ P.natAbs < B ∧ Nat.gcd P.natAbs Q.natAbs = 1
theorem t60 : (10 : Nat) ^ 60 < 2 ^ 200 := by decide
theorem neD_int (a b : Int) (st : Sto) : neD (.int a) (.int b) st = .ok (.bl (!decide (a = b))) st := by
  show Res.ok (D.bl (!(a == b))) st = _
  rfl
theorem wide {o : Option O} (h : BInv o) : ∃ (d : D) (o' : Option O), f__law_wide [.ref 0] [o] = .ok d [o'] ∧ BInv o' ∧ Fr (10 ^ 60) d := by
  obtain ⟨p, o1, e1, h1, b1⟩ := lawbig h
  obtain ⟨r, o2, e2, h2, r0, r1⟩ := draw h1 (L := 3) (by decide) (by decide)
  have t := t60
  by_cases hr : 0 < r
  · obtain ⟨q, o3, e3, h3, b3⟩ := lawbig h2
    by_cases hq : q = 0
    · obtain ⟨P, Q, e4, g1, g2, g3, g4, _⟩ := low p 1 (by decide) (a := 200) (by decide) (by decide)
      refine ⟨_, o3, ?_, h3, P, Q, rfl, g1, by omega, by omega, g2⟩
      simp only [f__law_wide, chk, runDef, m__law_wide]
      simp [e1, e2, e3, hr, neD_int, hq, e4, finR_le]
    · obtain ⟨P, Q, e4, g1, g2, g3, g4, _⟩ := low p q hq (a := 200) (by omega) (by decide)
      refine ⟨_, o3, ?_, h3, P, Q, rfl, g1, by omega, by omega, g2⟩
      simp only [f__law_wide, chk, runDef, m__law_wide]
      simp [e1, e2, e3, hr, neD_int, hq, e4, finR_le]
  · obtain ⟨P, Q, e4, g1, g2, g3, g4, _⟩ := low p 1 (by decide) (a := 200) (by decide) (by decide)
    refine ⟨_, o2, ?_, h2, P, Q, rfl, g1, by omega, by omega, g2⟩
    simp only [f__law_wide, chk, runDef, m__law_wide]
    simp [e1, e2, hr, neD_int, e4, finR_le]
theorem number {o : Option O} (h : BInv o) : ∃ (d : D) (o' : Option O), f__law_number [.ref 0] [o] = .ok d [o'] ∧ BInv o' ∧ Fr 10000000 d := by
  obtain ⟨r, o1, e1, h1, r0, r1⟩ := draw h (L := 18) (by decide) (by decide)
  by_cases c1 : r < 6
  · refine ⟨.tup [.int 0, .int 1], o1, ?_, h1, 0, 1, rfl, by decide, by decide, by decide, by decide⟩
    simp only [f__law_number, chk, runDef, m__law_number]
    simp [e1, c1, finR_le, two_le_line]
  by_cases c2 : r < 8
  · refine ⟨.tup [.int 1, .int 1], o1, ?_, h1, 1, 1, rfl, by decide, by decide, by decide, by decide⟩
    simp only [f__law_number, chk, runDef, m__law_number]
    simp [e1, c1, c2, finR_le, two_le_line]
  obtain ⟨s, o2, e2, h2, s0, s1⟩ := draw h1 (L := 9) (by decide) (by decide)
  have l3 : ∀ (a b c : D) st, mkL false [a, b, c] st = .ok (.lst [a, b, c]) st := fun _ _ _ _ => rfl
  have l6 : ∀ (a b c d e f : D) st, mkL false [a, b, c, d, e, f] st = .ok (.lst [a, b, c, d, e, f]) st := fun _ _ _ _ _ _ _ => rfl
  have fin : ∀ (p : Int) (o : Option O), BInv o → 1 ≤ p → p < 10000000 → ∃ (d : D) (o' : Option O), (∃ (q : Int) (o2 : Option O), f__law_draw [.ref 0, .int 2] [o] = .ok (.int q) [o2] ∧ ∃ z, f__law_of [.ref 0, .lst [.int 1, .int 1, .int 2, .int 1, .int 3, .int 1]] [o2] = .ok (.int z) [o'] ∧ ∀ st, f__law_low [.int (if q = 1 then -p else p), .int z] st = .ok d st) ∧ BInv o' ∧ Fr 10000000 d := by
    intro p o h p0 p1
    obtain ⟨q, o2, e3, h3, _, _⟩ := draw h (L := 2) (by decide) (by decide)
    obtain ⟨z, hz, o4, e4, h4⟩ := of_ints h3 (ns := [1, 1, 2, 1, 3, 1]) (by decide) (by decide)
    have hz2 : 1 ≤ z ∧ z ≤ 3 := by simp at hz; omega
    obtain ⟨P, Q, e5, g1, g2, g3, g4, _⟩ := low (if q = 1 then -p else p) z (by omega) (a := 200) (by omega) (by decide)
    have : (if q = 1 then -p else p).natAbs = p.natAbs := by split <;> omega
    exact ⟨_, o4, ⟨q, o2, e3, z, e4, e5⟩, h4, P, Q, rfl, g1, by omega, by omega, g2⟩
  by_cases c3 : r = 17
  · obtain ⟨n, hn, o3, e3, h3⟩ := of_ints h2 (ns := [100, 10000, 1000000]) (by decide) (by decide)
    have hn2 : 1 ≤ n ∧ n ≤ 1000000 := by simp at hn; omega
    obtain ⟨t, o4, e4, h4, t0, t1⟩ := draw h3 (L := n) hn2.1 (by omega)
    obtain ⟨d, o5, hx, h5, hd⟩ := fin (1 + s + t) o4 h4 (by omega) (by omega)
    obtain ⟨q, o6, e6, z, e7, e8⟩ := hx
    refine ⟨d, o5, ?_, h5, hd⟩
    simp only [List.map_cons, List.map_nil] at e3
    simp only [f__law_number, chk, runDef, m__law_number]
    by_cases c4 : q = 1
    · rw [if_pos c4] at e8
      simp [e1, c1, c2, e2, eqD_int, c3, l3, l6, e3, e4, e6, c4, e7, e8, finR_le]
    · rw [if_neg c4] at e8
      simp [e1, c1, c2, e2, eqD_int, c3, l3, l6, e3, e4, e6, c4, e7, e8, finR_le]
  · obtain ⟨d, o5, hx, h5, hd⟩ := fin (1 + s) o2 h2 (by omega) (by omega)
    obtain ⟨q, o6, e6, z, e7, e8⟩ := hx
    refine ⟨d, o5, ?_, h5, hd⟩
    simp only [f__law_number, chk, runDef, m__law_number]
    by_cases c4 : q = 1
    · rw [if_pos c4] at e8
      simp [e1, c1, c2, e2, eqD_int, c3, l3, l6, e6, c4, e7, e8, finR_le]
    · rw [if_neg c4] at e8
      simp [e1, c1, c2, e2, eqD_int, c3, l3, l6, e6, c4, e7, e8, finR_le]
end K01

set_option linter.all false
set_option maxRecDepth 100000
set_option maxHeartbeats 2000000
namespace Sim
open PySem PySem.Spec PyProof.Rows L2
theorem finX_le {n : Nat} {x : Exn} {st : Sto} (h : st.length ≤ n) : finX n x st = .exc x st := by
  unfold finX
  rw [List.take_of_length_le h]
  split <;> rfl
theorem isiD_int (f : Tg → Option Bool) (i : Int) (st : Sto) : isiD f (.int i) st = (match f (.b "int") with | some b => .ok (.bl b) st | none => .bad) := rfl
end Sim
namespace K01
open PySem PySem.Spec PyProof.Rows L2 Sim
def xDiv : Exn := ⟨"DividedByZero", [("code", .str "DividedByZero")]⟩
def xPow (v : D) : Exn := ⟨"InvalidPower", [("code", .str "InvalidPower"), ("value", v)]⟩
theorem finR_self (d : D) (st : Sto) : finR st.length d st = .ok d st := finR_le (Nat.le_refl _)
theorem ask_told {ml : Sto → Res D} {d : D} {st : Sto} (h : ml st = .ok d st) : f__law_ask ml st = .ok (.lst [.str "told", d]) st := by
  unfold f__law_ask fAsk sTry
  simp only [h, Res.toRS]
  exact finR_self _ _
theorem fault_div (st : Sto) : f__law_fault [.ins "DividedByZero" [("code", .str "DividedByZero")]] st = .ok (.lst [.str "DividedByZero"]) st := by
  have e1 : isiD (isO ancO leafs "InvalidPower") (.ins "DividedByZero" [("code", .str "DividedByZero")]) st = .ok (.bl false) st := rfl
  have e2 : isiD (isO ancO leafs "DividedByZero") (.ins "DividedByZero" [("code", .str "DividedByZero")]) st = .ok (.bl true) st := rfl
  have e3 : attD "code" (.ins "DividedByZero" [("code", .str "DividedByZero")]) st = .ok (.str "DividedByZero") st := rfl
  simp only [f__law_fault, chk, runDef, m__law_fault]
  simp [e1, e2, e3, mkF, le_line, finR_le]
theorem fault_pow (v : D) (st : Sto) : f__law_fault [.ins "InvalidPower" [("code", .str "InvalidPower"), ("value", v)]] st = .ok (.lst [.str "InvalidPower", v]) st := by
  have e1 : isiD (isO ancO leafs "InvalidPower") (.ins "InvalidPower" [("code", .str "InvalidPower"), ("value", v)]) st = .ok (.bl true) st := rfl
  have e3 : attD "code" (.ins "InvalidPower" [("code", .str "InvalidPower"), ("value", v)]) st = .ok (.str "InvalidPower") st := rfl
  have e4 : attD "value" (.ins "InvalidPower" [("code", .str "InvalidPower"), ("value", v)]) st = .ok v st := rfl
  simp only [f__law_fault, chk, runDef, m__law_fault]
  simp [e1, e3, e4, mkF, le_line, finR_le]
theorem ask_exc {ml : Sto → Res D} {x : Exn} {d : D} {st : Sto} (h : ml st = .exc x st) (hl : x.cls ∈ leafs) (ha : ("CreepError" : Str) ∈ ancO x.cls ∨ ("NoAnswer" : Str) ∈ ancO x.cls) (hf : f__law_fault [.ins x.cls x.fs] st = .ok d st) : f__law_ask ml st = .ok d st := by
  unfold f__law_ask fAsk sTry
  simp only [h, Res.toRS]
  rw [if_pos hl]
  have e : (eCallH f__law_fault (aCons (eVar 1) aNil)) ((List.replicate 2 none).set 1 (some (D.ins x.cls x.fs))) st = .ok d st := by
    unfold eCallH
    simp [hf, noX]
  have e2 : sRet (eCallH f__law_fault (aCons (eVar 1) aNil)) ((List.replicate 2 none).set 1 (some (D.ins x.cls x.fs))) st = .rt d st := by
    unfold sRet
    rw [e]
    rfl
  have key : hdM ancO cl__law_ask x (List.replicate 2 none) st = .rt d st := by
    unfold cl__law_ask hdM
    by_cases hc : ("CreepError" : Str) ∈ ancO x.cls
    · rw [if_pos hc]
      simp only [e2]
    · rw [if_neg hc]
      unfold hdM
      rw [if_pos (ha.resolve_left hc)]
      simp only [e2]
  rw [key]
  exact finR_self _ _
theorem ask_div {ml : Sto → Res D} {st : Sto} (h : ml st = .exc xDiv st) : f__law_ask ml st = .ok (.lst [.str "DividedByZero"]) st :=
  ask_exc h (by decide +kernel) (.inr (by decide +kernel)) (fault_div st)
theorem ask_pow {ml : Sto → Res D} {v : D} {st : Sto} (h : ml st = .exc (xPow v) st) : f__law_ask ml st = .ok (.lst [.str "InvalidPower", v]) st :=
  ask_exc h (show ("InvalidPower" : Str) ∈ leafs by decide +kernel) (by first | exact .inl (show ("CreepError" : Str) ∈ ancO "InvalidPower" by decide +kernel) | exact .inr (show ("NoAnswer" : Str) ∈ ancO "InvalidPower" by decide +kernel)) (fault_pow v st)
theorem ratio0 (p : Int) (st : Sto) : f_ratio [.int p, .int 0] st = .exc xDiv st := by
  simp only [f_ratio, chk, runDef, m_ratio]
  have e : ∀ σ, sRaise "DividedByZero" tp_DividedByZero 0 aNil σ st = .exc xDiv σ st := fun σ => rfl
  simp [eqD_int, e, finX_le]
end K01

set_option exponentiation.threshold 2000
set_option linter.all false
set_option maxRecDepth 100000
set_option maxHeartbeats 2000000
namespace K01
open PySem PySem.Spec PyProof.Rows L2 Sim
theorem lt401 {x y : Int} {n : Nat} (h1 : x.natAbs < 2 ^ n) (h2 : y.natAbs < 2 ^ n) : (x + y).natAbs < 2 ^ (n + 1) := by
  have h3 := Int.natAbs_add_le x y
  rw [Nat.pow_succ]
  omega
theorem i20 (a b : D) (st : Sto) : ixD (.tup [a, b]) (.int 0) st = .ok a st := rfl
theorem i21 (a b : D) (st : Sto) : ixD (.tup [a, b]) (.int 1) st = .ok b st := rfl
theorem mk200 {i j : Int} (h1 : i.natAbs < 2 ^ 200) (h2 : j.natAbs < 2 ^ 200) (st : Sto) : mulI (.int i) (.int j) st = .ok (.int (i * j)) st := mulI_int _ _ _ (mulB h1 h2 (by decide))
theorem prod0 {a b : Int} (ha : 1 ≤ a) (hb : 1 ≤ b) : 1 ≤ a * b := by
  have := Int.mul_pos (show 0 < a by omega) (show 0 < b by omega)
  omega
section
variable {a0 a1 b0 b1 : Int} (ha0 : a0.natAbs < 2 ^ 200) (ha1 : a1.natAbs < 2 ^ 200) (hb0 : b0.natAbs < 2 ^ 200) (hb1 : b1.natAbs < 2 ^ 200) (pa : 1 ≤ a1) (pb : 1 ≤ b1)
include ha0 ha1 hb0 hb1 pa pb
theorem addG : ∃ P Q : Int, (∀ st, f__law_add [.tup [.int a0, .int a1], .tup [.int b0, .int b1]] st = .ok (.tup [.int P, .int Q]) st) ∧ (∀ st, f_sum_of [.tup [.int a0, .int a1], .tup [.int b0, .int b1]] st = .ok (.tup [.int P, .int Q]) st) := by
  have hq := prod0 pa pb
  have hq2 : (a1 * b1).natAbs < 2 ^ 400 := natAbs_lt_mul ha1 hb1
  obtain ⟨P, Q, e1, _, _, _, _, g5, _, _, e2⟩ := low (a0 * b1 + b0 * a1) (a1 * b1) (by omega) (a := 400) hq2 (by decide)
  have m1 := fun st => mk200 ha0 hb1 st
  have m2 := fun st => mk200 hb0 ha1 st
  have m3 := fun st => mk200 ha1 hb1 st
  refine ⟨P, Q, fun st => ?_, fun st => ?_⟩
  · simp only [f__law_add, chk, runDef, m__law_add]
    by_cases c : a1 = 1 ∧ b1 = 1
    · obtain ⟨c1, c2⟩ := c
      have := g5 (by rw [c1, c2]; simp) (by omega)
      have z1 : P = a0 + b0 := by rw [this.1, c1, c2]; omega
      have z2 : Q = 1 := by rw [this.2, c1, c2]; rfl
      subst z1 z2
      simp [i20, i21, eqD_int, c1, c2, finR_le, two_le_line]
    · by_cases c1 : a1 = 1
      · have c2 : ¬ b1 = 1 := fun z => c ⟨c1, z⟩
        simp [i20, i21, eqD_int, decide_eq_true c1, decide_eq_false c2, m1, m2, m3, e1, finR_le]
      · simp [i20, i21, eqD_int, decide_eq_false c1, m1, m2, m3, e1, finR_le]
  · simp only [f_sum_of, chk, runDef, m_sum_of]
    simp [i20, i21, m1, m2, m3, e2, finR_le]
theorem mulG : ∃ P Q : Int, (∀ st, f__law_mul [.tup [.int a0, .int a1], .tup [.int b0, .int b1]] st = .ok (.tup [.int P, .int Q]) st) ∧ (∀ st, f_product_of [.tup [.int a0, .int a1], .tup [.int b0, .int b1]] st = .ok (.tup [.int P, .int Q]) st) := by
  have hq := prod0 pa pb
  have hq2 : (a1 * b1).natAbs < 2 ^ 400 := natAbs_lt_mul ha1 hb1
  obtain ⟨P, Q, e1, _, _, _, _, g5, _, _, e2⟩ := low (a0 * b0) (a1 * b1) (by omega) (a := 400) hq2 (by decide)
  have m1 := fun st => mk200 ha0 hb0 st
  have m3 := fun st => mk200 ha1 hb1 st
  refine ⟨P, Q, fun st => ?_, fun st => ?_⟩
  · simp only [f__law_mul, chk, runDef, m__law_mul]
    by_cases c : a1 = 1 ∧ b1 = 1
    · obtain ⟨c1, c2⟩ := c
      have := g5 (by rw [c1, c2]; simp) (by omega)
      have z1 : P = a0 * b0 := this.1
      have z2 : Q = 1 := by rw [this.2, c1, c2]; rfl
      subst z1 z2
      simp [i20, i21, eqD_int, c1, c2, m1, finR_le, two_le_line]
    · by_cases c1 : a1 = 1
      · have c2 : ¬ b1 = 1 := fun z => c ⟨c1, z⟩
        simp [i20, i21, eqD_int, decide_eq_true c1, decide_eq_false c2, m1, m3, e1, finR_le]
      · simp [i20, i21, eqD_int, decide_eq_false c1, m1, m3, e1, finR_le]
  · simp only [f_product_of, chk, runDef, m_product_of]
    simp [i20, i21, m1, m3, e2, finR_le]
theorem belowG (st : Sto) : f_is_below [.tup [.int a0, .int a1], .tup [.int b0, .int b1]] st = .ok (.bl (decide (a0 * b1 < b0 * a1))) st := by
  simp only [f_is_below, chk, runDef, m_is_below]
  simp [i20, i21, mk200 ha0 hb1, mk200 hb0 ha1, finR_le]
end
theorem negG (b0 b1 : Int) (st : Sto) : f__law_neg [.tup [.int b0, .int b1]] st = .ok (.tup [.int (-b0), .int b1]) st := by
  have nm : ∀ i st, negI (.int i) st = .ok (.int (-i)) st := fun _ _ => rfl
  simp only [f__law_neg, chk, runDef, m__law_neg]
  simp [i20, i21, nm, finR_le, two_le_line]
section
variable {a0 a1 b0 b1 : Int} (ha0 : a0.natAbs < 2 ^ 200) (ha1 : a1.natAbs < 2 ^ 200) (hb0 : b0.natAbs < 2 ^ 200) (hb1 : b1.natAbs < 2 ^ 200) (pa : 1 ≤ a1) (pb : 1 ≤ b1)
include ha0 ha1 hb0 hb1 pa pb
theorem subG : ∃ P Q : Int, (∀ st, f__law_add [.tup [.int a0, .int a1], .tup [.int (-b0), .int b1]] st = .ok (.tup [.int P, .int Q]) st) ∧ (∀ st, f_difference_of [.tup [.int a0, .int a1], .tup [.int b0, .int b1]] st = .ok (.tup [.int P, .int Q]) st) := by
  have hq := prod0 pa pb
  have hq2 : (a1 * b1).natAbs < 2 ^ 400 := natAbs_lt_mul ha1 hb1
  obtain ⟨P, Q, e1, _, _, _, _, g5, _, _, e2⟩ := low (a0 * b1 + (-b0) * a1) (a1 * b1) (by omega) (a := 400) hq2 (by decide)
  have hb0' : (-b0).natAbs < 2 ^ 200 := by rw [Int.natAbs_neg]; exact hb0
  have m1 := fun st => mk200 ha0 hb1 st
  have m2 := fun st => mk200 hb0' ha1 st
  have m4 := fun st => mk200 hb0 ha1 st
  have m3 := fun st => mk200 ha1 hb1 st
  refine ⟨P, Q, fun st => ?_, fun st => ?_⟩
  · simp only [f__law_add, chk, runDef, m__law_add]
    by_cases c : a1 = 1 ∧ b1 = 1
    · obtain ⟨c1, c2⟩ := c
      have := g5 (by rw [c1, c2]; simp) (by omega)
      have z1 : P = a0 + -b0 := by rw [this.1, c1, c2]; omega
      have z2 : Q = 1 := by rw [this.2, c1, c2]; rfl
      subst z1 z2
      simp [i20, i21, eqD_int, c1, c2, finR_le, two_le_line]
    · obtain ⟨nb, hnb⟩ : ∃ nb, nb = -b0 := ⟨_, rfl⟩
      rw [← hnb] at m2 e1 ⊢
      by_cases c1 : a1 = 1
      · have c2 : ¬ b1 = 1 := fun z => c ⟨c1, z⟩
        simp [i20, i21, eqD_int, decide_eq_true c1, decide_eq_false c2, m1, m2, m3, e1, finR_le]
      · simp [i20, i21, eqD_int, decide_eq_false c1, m1, m2, m3, e1, finR_le]
  · have h : a0 * b1 + -b0 * a1 = a0 * b1 - b0 * a1 := by rw [Int.neg_mul]; rfl
    rw [h] at e2
    simp only [f_difference_of, chk, runDef, m_difference_of]
    simp [i20, i21, m1, m4, m3, e2, finR_le]
theorem quoG (hz : b0 ≠ 0) : ∃ P Q : Int, (∀ st, f__law_low [.int (a0 * b1), .int (a1 * b0)] st = .ok (.tup [.int P, .int Q]) st) ∧ (∀ st, f_quotient_of [.tup [.int a0, .int a1], .tup [.int b0, .int b1]] st = .ok (.tup [.int P, .int Q]) st) := by
  have hq2 : (a1 * b0).natAbs < 2 ^ 400 := natAbs_lt_mul ha1 hb0
  obtain ⟨P, Q, e1, _, _, _, _, _, _, _, e2⟩ := low (a0 * b1) (a1 * b0) (Int.mul_ne_zero (by omega) hz) (a := 400) hq2 (by decide)
  refine ⟨P, Q, e1, fun st => ?_⟩
  simp only [f_quotient_of, chk, runDef, m_quotient_of]
  simp [i20, i21, mk200 ha0 hb1, mk200 ha1 hb0, e2, finR_le]
omit hb0 pb pa in
theorem quo0 (st : Sto) : f_quotient_of [.tup [.int a0, .int a1], .tup [.int 0, .int b1]] st = .exc xDiv st := by
  have h0 : ∀ st, mulI (.int a1) (.int 0) st = .ok (.int 0) st := fun st => by rw [mk200 ha1 (by decide)]; simp
  have e := fun st => ratio0 (a0 * b1) st
  simp only [f_quotient_of, chk, runDef, m_quotient_of]
  simp [i20, i21, mk200 ha0 hb1, h0, e, finX_le]
end
theorem plT (P Q : Int) : Pl 1 (.tup [.int P, .int Q]) := .tup 0 _ (by simp) fun d hd => by
  simp at hd
  rcases hd with rfl | rfl <;> exact .int 0 _
theorem plL {n : Nat} {ds : List D} (h : ds.length ≤ 1000) (hd : ∀ d ∈ ds, Pl n d) : Pl (n + 1) (.lst ds) := .lst n _ h hd
theorem pl_up {n : Nat} {d : D} (h : Pl n d) : ∀ m, n ≤ m → Pl m d := by
  induction h with
  | non n => exact fun m _ => .non m
  | bl n b => exact fun m _ => .bl m b
  | int n i => exact fun m _ => .int m i
  | str n s h => exact fun m _ => .str m s h
  | lst n ds l h ih => intro m hm; obtain ⟨k, rfl⟩ : ∃ k, m = k + 1 := ⟨m - 1, by omega⟩; exact .lst k ds l fun d hd => ih d hd k (by omega)
  | tup n ds l h ih => intro m hm; obtain ⟨k, rfl⟩ : ∃ k, m = k + 1 := ⟨m - 1, by omega⟩; exact .tup k ds l fun d hd => ih d hd k (by omega)
theorem eask_div {me : Em} {σ : Sl} {st : Sto} (h : me σ st = .exc xDiv st) : eAsk f__law_ask me σ st = .ok (.lst [.str "DividedByZero"]) st := by
  unfold eAsk
  rw [ask_div h]
  rfl
theorem eask_pow {me : Em} {σ : Sl} {v : D} {st : Sto} (h : me σ st = .exc (xPow v) st) : eAsk f__law_ask me σ st = .ok (.lst [.str "InvalidPower", v]) st := by
  unfold eAsk
  rw [ask_pow h]
  rfl
theorem eask_told {me : Em} {σ : Sl} {d : D} {st : Sto} (h : me σ st = .ok d st) : eAsk f__law_ask me σ st = .ok (.lst [.str "told", d]) st := by
  unfold eAsk
  rw [ask_told h]
  rfl
theorem pl_told {d : D} {n : Nat} (h : Pl n d) : Pl (n + 1) (.lst [.str "told", d]) := plL (by simp) fun x hx => by
  simp at hx
  rcases hx with rfl | rfl
  · exact .str n _ (by decide +kernel)
  · exact h
theorem deeds {a0 a1 b0 b1 : Int} (ha0 : a0.natAbs < 2 ^ 200) (ha1 : a1.natAbs < 2 ^ 200) (hb0 : b0.natAbs < 2 ^ 200) (hb1 : b1.natAbs < 2 ^ 200) (pa : 1 ≤ a1) (pb : 1 ≤ b1) (st : Sto) : f__law_deeds_so [.tup [.int a0, .int a1], .tup [.int b0, .int b1]] st = .ok (.bl true) st := by
  obtain ⟨P1, Q1, e1, s1⟩ := addG ha0 ha1 hb0 hb1 pa pb
  obtain ⟨P2, Q2, e2, s2⟩ := subG ha0 ha1 hb0 hb1 pa pb
  obtain ⟨P3, Q3, e3, s3⟩ := mulG ha0 ha1 hb0 hb1 pa pb
  have s4 := fun st => belowG ha0 ha1 hb0 hb1 pa pb st
  have e4 := fun st => negG b0 b1 st
  obtain ⟨bb, hbb⟩ : ∃ b, b = decide (a0 * b1 < b0 * a1) := ⟨_, rfl⟩
  have l1 := fun st => like (plL (n := 1) (ds := [.tup [.int P1, .int Q1], .tup [.int P2, .int Q2], .tup [.int P3, .int Q3], .bl bb]) (by simp) (fun d hd => by
    simp at hd
    rcases hd with rfl | rfl | rfl | rfl
    · exact plT _ _
    · exact plT _ _
    · exact plT _ _
    · exact .bl _ _)) 6 st (by decide)
  have m1 := fun st => mk200 ha0 hb1 st
  have m2 := fun st => mk200 hb0 ha1 st
  have m3 := fun st => mk200 ha1 hb0 st
  have hlt : ∀ st, ltI (.int (a0 * b1)) (.int (b0 * a1)) st = .ok (.bl bb) st := fun st => by rw [hbb]; rfl
  rw [← hbb] at s4
  simp only [f__law_deeds_so, chk, runDef, m__law_deeds_so]
  by_cases hz : b0 = 0
  · have q0 := fun st => quo0 (a0 := a0) (a1 := a1) (b1 := b1) ha0 ha1 hb1 st
    rw [← hz] at q0
    have l2 := fun st => like (plL (n := 1) (ds := [.lst [.str "DividedByZero"], .lst [.str "DividedByZero"]]) (by simp) (fun d hd => by
      simp at hd
      subst hd
      exact plL (n := 0) (by simp) fun d hd => by
        simp at hd
        subst hd
        exact .str 0 _ (by decide +kernel))) 6 st (by decide)
    have k := fun me σ st h => eask_div (me := me) (σ := σ) (st := st) h
    simp [-ltI_int, i20, i21, e1, e2, e3, e4, s1, s2, s3, s4, m1, m2, hlt, mkF, le_line, l1, eCallK, gB, eqD_int, decide_eq_true hz, l2, k, q0, finR_le]
  · obtain ⟨P, Q, e5, s5⟩ := quoG ha0 ha1 hb0 hb1 pa pb hz
    have l2 := fun st => like (plL (n := 2) (ds := [.lst [.str "told", .tup [.int P, .int Q]], .lst [.str "told", .tup [.int P, .int Q]]]) (by simp) (fun d hd => by
      simp at hd
      subst hd
      exact pl_told (plT P Q))) 6 st (by decide)
    have k := fun me σ st h => eask_told (d := .tup [.int P, .int Q]) (me := me) (σ := σ) (st := st) h
    simp [-ltI_int, i20, i21, e1, e2, e3, e4, s1, s2, s3, s4, m1, m2, m3, hlt, mkF, le_line, l1, eCallK, gB, eqD_int, decide_eq_false hz, l2, k, e5, s5, finR_le]
end K01

set_option exponentiation.threshold 2000
set_option linter.all false
set_option maxRecDepth 100000
set_option maxHeartbeats 2000000
namespace K01
open PySem PySem.Spec PyProof.Rows L2 Sim
theorem seq_nx {a b : Sm} {σ σ1 : Sl} {st st1 : Sto} (h : a σ st = .nx σ1 st1) : sSeq a b σ st = b σ1 st1 := by
  show (a σ st).seq b = _
  rw [h]
  rfl
theorem def_rt {k n : Nat} {m : Sm} {as : List D} {d : D} {st st' : Sto} (hk : as.length = k) (h : m (as.map some ++ List.replicate (n - as.length) none) st = .rt d st') (hl : st'.length ≤ st.length) : chk k (runDef n m) as st = .ok d st' := by
  unfold chk
  rw [if_pos hk]
  unfold runDef
  rw [h]
  exact finR_le hl
theorem def_exc {k n : Nat} {m : Sm} {as : List D} {x : Exn} {σ : Sl} {st st' : Sto} (hk : as.length = k) (h : m (as.map some ++ List.replicate (n - as.length) none) st = .exc x σ st') (hl : st'.length ≤ st.length) : chk k (runDef n m) as st = .exc x st' := by
  unfold chk
  rw [if_pos hk]
  unfold runDef
  rw [h]
  exact finX_le hl
theorem absN (i : Int) : ∃ a : Int, a = (i.natAbs : Nat) ∧ ∀ st, absD [.int i] st = .ok (.int a) st := ⟨_, rfl, fun st => by rw [absD_int, absI]⟩
theorem powT (n : Nat) (h : n ≤ 1000) : ∃ N : Int, N = 10 ^ n ∧ ∀ st, powI (.int 10) (.int n) st = .ok (.int N) st := ⟨_, rfl, fun st => by
  rw [powI_int _ _ _ (by
    unfold powOk
    have : (10 : Int).natAbs < 2 ^ 64 := by decide
    simp [this]
    omega)]
  rfl⟩
theorem ratio_so {o : Option O} (h : BInv o) {p q : Int} (hp : p.natAbs < 10 ^ 60) (hq : q.natAbs < 10 ^ 60) : ∃ o', f__law_ratio_so [.ref 0, .int p, .int q] [o] = .ok (.bl true) [o'] ∧ BInv o' := by
  obtain ⟨r, o1, e1, b1, r0, r1⟩ := draw h (L := 12) (by decide) (by decide)
  obtain ⟨ap, hap, eap⟩ := absN p
  obtain ⟨aq, haq, eaq⟩ := absN q
  obtain ⟨N, hN, eN⟩ := powT 60 (by decide)
  have mc : ∀ i, mulOk i (1 + r) = true := fun i => mulC i (by omega)
  have m := fun i st => mulI_int i (1 + r) st (mc i)
  have t := t60
  have fin : ∀ p q : Int, p.natAbs < 10 ^ 60 → q.natAbs < 10 ^ 60 → ∀ c : Int, (sSeq (sSet 4 (eIf (tOf (eBin eqD (eVar 2) (eC (.int 0)))) (eLst false (aCons (eC (.str "DividedByZero")) aNil)) (eLst false (aCons (eC (.str "told")) (aCons (eCall f__law_low (aCons (eVar 1) (aCons (eVar 2) aNil)) []) aNil))))) (sRet (eCall (f__law_like 6) (aCons (eLst false (aCons (eAsk f__law_ask (eCall f_ratio (aCons (eVar 1) (aCons (eVar 2) aNil)) [])) (aCons (eAsk f__law_ask (eCallK f_ratio 0 2 true aNil (aCons (eVar 2) (aCons (eVar 1) aNil)))) aNil))) (aCons (eLst false (aCons (eVar 4) (aCons (eVar 4) aNil))) aNil)) []))) [some (.ref 0), some (.int p), some (.int q), some (.int c), none] [o1] = .rt (.bl true) [o1] := by
    intro p q hp hq c
    by_cases hz : q = 0
    · have q0 := fun st => ratio0 p st
      rw [← hz] at q0
      have l2 := fun st => like (plL (n := 1) (ds := [.lst [.str "DividedByZero"], .lst [.str "DividedByZero"]]) (by simp) (fun d hd => by
        simp at hd
        subst hd
        exact plL (n := 0) (by simp) fun d hd => by
          simp at hd
          subst hd
          exact .str 0 _ (by decide +kernel))) 6 st (by decide)
      have k := fun me σ st h => eask_div (me := me) (σ := σ) (st := st) h
      simp [eqD_int, decide_eq_true hz, mkF, le_line, eCallK, gB, l2, k, q0]
    · obtain ⟨P, Q, e5, _, _, _, _, _, _, _, s5⟩ := low p q hz (a := 200) (by omega) (by decide)
      have l2 := fun st => like (plL (n := 2) (ds := [.lst [.str "told", .tup [.int P, .int Q]], .lst [.str "told", .tup [.int P, .int Q]]]) (by simp) (fun d hd => by
        simp at hd
        subst hd
        exact pl_told (plT P Q))) 6 st (by decide)
      have k := fun me σ st h => eask_told (d := .tup [.int P, .int Q]) (me := me) (σ := σ) (st := st) h
      simp [eqD_int, decide_eq_false hz, mkF, le_line, eCallK, gB, l2, k, e5, s5]
  refine ⟨o1, ?_, b1⟩
  have eN' : ∀ st, powI (.int 10) (.int 60) st = .ok (.int N) st := eN
  unfold f__law_ratio_so
  refine def_rt rfl ?_ (Nat.le_refl _)
  show m__law_ratio_so [some (.ref 0), some (.int p), some (.int q), none, none] [o] = _
  unfold m__law_ratio_so
  refine (seq_nx (σ1 := [some (.ref 0), some (.int p), some (.int q), some (.int (1 + r)), none]) (st1 := [o1]) (by simp [e1])).trans ?_
  by_cases c : ap * (1 + r) < N ∧ aq * (1 + r) < N
  · refine (seq_nx (σ1 := [some (.ref 0), some (.int (p * (1 + r))), some (.int (q * (1 + r))), some (.int (1 + r)), none]) (st1 := [o1]) (by simp [-absD_int, eap, eaq, m, eN', decide_eq_true c.1, decide_eq_true c.2, two_le_line])).trans ?_
    exact fin (p * (1 + r)) (q * (1 + r)) (by
      rw [Int.natAbs_mul]
      have : ((p.natAbs * (1 + r).natAbs : Nat) : Int) = ap * (1 + r) := by rw [Int.natCast_mul, hap]; congr 1; omega
      have : ((10 ^ 60 : Nat) : Int) = N := by rw [hN]; rfl
      omega) (by
      rw [Int.natAbs_mul]
      have : ((q.natAbs * (1 + r).natAbs : Nat) : Int) = aq * (1 + r) := by rw [Int.natCast_mul, haq]; congr 1; omega
      have : ((10 ^ 60 : Nat) : Int) = N := by rw [hN]; rfl
      omega) (1 + r)
  · refine (seq_nx (σ1 := [some (.ref 0), some (.int p), some (.int q), some (.int (1 + r)), none]) (st1 := [o1]) ?_).trans (fin p q hp hq (1 + r))
    by_cases c1 : ap * (1 + r) < N
    · have c2 : ¬ aq * (1 + r) < N := fun z => c ⟨c1, z⟩
      simp [-absD_int, eap, eaq, m, eN', decide_eq_true c1, decide_eq_false c2]
    · simp [-absD_int, eap, eaq, m, eN', decide_eq_false c1]
end K01

set_option exponentiation.threshold 2000
set_option linter.all false
set_option maxRecDepth 100000
set_option maxHeartbeats 2000000
namespace K01
open PySem PySem.Spec PyProof.Rows L2 Sim
/-- the fraction of two integers without a common factor, of any size -/
theorem ratio_co {p q : Int} (hg : Nat.gcd p.natAbs q.natAbs = 1) (hq : q ≠ 0) (st : Sto) : f_ratio [.int p, .int q] st = .ok (if q < 0 then .tup [.int (-p), .int (-q)] else .tup [.int p, .int q]) st := by
  have d1 : ∀ i, divOk i 1 = true := fun i => divC i (by decide) (by decide)
  have g1 : ∀ st, gcdD [.int p, .int q] st = .ok (.int 1) st := fun st => by rw [gcdD_int, hg]; rfl
  have f1 := fun i st => fdivI_int i 1 st (d1 i)
  simp only [f_ratio, chk, runDef, m_ratio]
  by_cases h : q < 0
  · simp [-gcdD_int, eqD_int, decide_eq_false hq, g1, h, f1, finR_le, two_le_line]
  · simp [-gcdD_int, eqD_int, decide_eq_false hq, g1, h, f1, finR_le, two_le_line]
theorem raise_pow {σ : Sl} {d : D} (h : σ[1]? = some (some d)) (st : Sto) : sRaise "InvalidPower" tp_InvalidPower 1 (aCons (eVar 1) aNil) σ st = .exc (xPow d) σ st := by
  unfold sRaise
  simp [h]
  rfl
theorem isI (i : Int) (st : Sto) : isiD (isB "int" clsL) (.int i) st = .ok (.bl true) st := rfl
theorem isIb (i : Int) (st : Sto) : isiD (isB "bool" clsL) (.int i) st = .ok (.bl false) st := rfl
theorem pow_out {a : D} {i : Int} (h : ¬ (-64 ≤ i ∧ i ≤ 64)) (st : Sto) : f_power_of [a, .int i] st = .exc (xPow (.int i)) st := by
  unfold f_power_of
  refine def_exc (σ := [some a, some (.int i)]) rfl ?_ (Nat.le_refl _)
  show m_power_of [some a, some (.int i)] st = _
  have e := raise_pow (σ := [some a, some (.int i)]) (d := .int i) rfl st
  unfold m_power_of
  by_cases c1 : -64 ≤ i
  · have c2 : ¬ i ≤ 64 := fun z => h ⟨c1, z⟩
    simp [isI, isIb, c1, c2, e]
  · simp [isI, isIb, c1, e]
theorem pow_odd {a d : D} (st : Sto) (h : isiD (isB "int" clsL) d st = .ok (.bl false) st ∨ (isiD (isB "int" clsL) d st = .ok (.bl true) st ∧ isiD (isB "bool" clsL) d st = .ok (.bl true) st)) : f_power_of [a, d] st = .exc (xPow d) st := by
  unfold f_power_of
  refine def_exc (σ := [some a, some d]) rfl ?_ (Nat.le_refl _)
  show m_power_of [some a, some d] st = _
  have e := raise_pow (σ := [some a, some d]) (d := d) rfl st
  unfold m_power_of
  rcases h with h | ⟨h1, h2⟩
  · simp [h, e]
  · simp [h1, h2, e]
section
variable {a0 a1 : Int} (h0 : a0.natAbs < 2 ^ 200) (h1 : a1.natAbs < 2 ^ 200) (p1 : 1 ≤ a1) (hg : Nat.gcd a0.natAbs a1.natAbs = 1)
theorem pow_pos {i : Int} (k : Nat) (hi : i = (k : Nat)) (hk : k ≤ 64) (h0 : a0.natAbs < 2 ^ 200) (h1 : a1.natAbs < 2 ^ 200) (st : Sto) : f_power_of [.tup [.int a0, .int a1], .int i] st = .ok (.tup [.int (a0 ^ k), .int (a1 ^ k)]) st := by
  have w0 := fun st => wpow a0 k i hi (A := 200) h0 (by omega) (by omega) (by omega) st
  have w1 := fun st => wpow a1 k i hi (A := 200) h1 (by omega) (by omega) (by omega) st
  unfold f_power_of
  refine def_rt rfl ?_ (Nat.le_refl _)
  show m_power_of [some (.tup [.int a0, .int a1]), some (.int i)] st = _
  unfold m_power_of
  have c1 : -64 ≤ i := by omega
  have c2 : i ≤ 64 := by omega
  have c3 : ¬ i < 0 := by omega
  simp [isI, isIb, c1, c2, c3, w0, w1, i20, i21, two_le_line]
theorem pow_neg {i : Int} (k : Nat) (hi : -i = (k : Nat)) (hk : k ≤ 64) (hk1 : 1 ≤ k) (h0 : a0.natAbs < 2 ^ 200) (h1 : a1.natAbs < 2 ^ 200) {d : D} (st : Sto) (hr : f_ratio [.int (a1 ^ k), .int (a0 ^ k)] st = .ok d st) : f_power_of [.tup [.int a0, .int a1], .int i] st = .ok d st := by
  obtain ⟨ni, hni⟩ : ∃ ni, ni = -i := ⟨_, rfl⟩
  have w0 := fun st => wpow a0 k ni (by omega) (A := 200) h0 (by omega) (by omega) (by omega) st
  have w1 := fun st => wpow a1 k ni (by omega) (A := 200) h1 (by omega) (by omega) (by omega) st
  unfold f_power_of
  refine def_rt rfl ?_ (Nat.le_refl _)
  show m_power_of [some (.tup [.int a0, .int a1]), some (.int i)] st = _
  unfold m_power_of
  have c1 : -64 ≤ i := by omega
  have c2 : i ≤ 64 := by omega
  have c3 : i < 0 := by omega
  simp [isI, isIb, c1, c2, c3, ← hni, w0, w1, i20, i21, hr]
theorem pow_zero {i : Int} (k : Nat) (hi : -i = (k : Nat)) (hk : k ≤ 64) (hk1 : 1 ≤ k) (h1 : a1.natAbs < 2 ^ 200) (st : Sto) : f_power_of [.tup [.int 0, .int a1], .int i] st = .exc xDiv st := by
  obtain ⟨ni, hni⟩ : ∃ ni, ni = -i := ⟨_, rfl⟩
  have w0 : ∀ st, f__whole_power [.int 0, .int ni] st = .ok (.int 0) st := fun st => by
    rw [wpow 0 k ni (by omega) (A := 200) (by decide) (by omega) (by omega) (by omega) st, Int.zero_pow (by omega)]
  have w1 := fun st => wpow a1 k ni (by omega) (A := 200) h1 (by omega) (by omega) (by omega) st
  have hr := fun st => ratio0 (a1 ^ k) st
  unfold f_power_of
  refine def_exc (σ := [some (.tup [.int 0, .int a1]), some (.int i)]) rfl ?_ (Nat.le_refl _)
  show m_power_of [some (.tup [.int 0, .int a1]), some (.int i)] st = _
  unfold m_power_of
  have c1 : -64 ≤ i := by omega
  have c2 : i ≤ 64 := by omega
  have c3 : i < 0 := by omega
  simp [isI, isIb, c1, c2, c3, ← hni, w0, w1, i20, i21, hr]
end
abbrev dueB : Sm := (sIf (tOf (eBin gtI (eCB absD (aCons (eVar 2) aNil)) (eC (.int 64)))) (sSet 4 (eLst false (aCons (eC (.str "InvalidPower")) (aCons (eVar 2) aNil)))) (sIf (tAnd (tOf (eBin eqD (eBin ixD (eVar 1) (eC (.int 0))) (eC (.int 0)))) (tOf (eBin ltI (eVar 2) (eC (.int 0))))) (sSet 4 (eLst false (aCons (eC (.str "DividedByZero")) aNil))) (sSeq (sAsg (eCall f__law_raised (aCons (eVar 1) (aCons (eCB absD (aCons (eVar 2) aNil)) aNil)) []) (gT 2 (gsCons (gN 5) (gsCons (gN 6) gsNil)))) (sSeq (sIf (tOf (eBin ltI (eVar 2) (eC (.int 0)))) (sAsg (eIf (tOf (eBin gtI (eVar 5) (eC (.int 0)))) (eTup (aCons (eVar 6) (aCons (eVar 5) aNil))) (eTup (aCons (eUn negI (eVar 6)) (aCons (eUn negI (eVar 5)) aNil)))) (gT 2 (gsCons (gN 5) (gsCons (gN 6) gsNil)))) sNil) (sSet 4 (eLst false (aCons (eC (.str "told")) (aCons (eTup (aCons (eVar 5) (aCons (eVar 6) aNil))) aNil))))))))
theorem due {a0 a1 : Int} (h0 : a0.natAbs < 2 ^ 200) (h1 : a1.natAbs < 2 ^ 200) (p1 : 1 ≤ a1) (hg : Nat.gcd a0.natAbs a1.natAbs = 1) (i : Int) (b : D) (st : Sto) : ∃ (d : D) (x y : Option D), dueB [some b, some (.tup [.int a0, .int a1]), some (.int i), none, none, none, none] st = .nx [some b, some (.tup [.int a0, .int a1]), some (.int i), none, some d, x, y] st ∧ Pl 2 d ∧ ∀ (me : Em) (σ : Sl) (st : Sto), me σ st = f_power_of [.tup [.int a0, .int a1], .int i] st → eAsk f__law_ask me σ st = .ok d st := by
  obtain ⟨ai, hai, eai⟩ := absN i
  by_cases c1 : 64 < ai
  · refine ⟨.lst [.str "InvalidPower", .int i], none, none, ?_, plL (by simp) fun d hd => ?_, fun me σ st h => ?_⟩
    · simp [-absD_int, eai, c1, mkF, le_line]
    · simp at hd
      rcases hd with rfl | rfl
      · exact .str _ _ (by decide +kernel)
      · exact .int _ _
    · rw [pow_out (by omega)] at h
      exact eask_pow h
  by_cases c2 : a0 = 0 ∧ i < 0
  · obtain ⟨z, c3⟩ := c2
    refine ⟨.lst [.str "DividedByZero"], none, none, ?_, plL (by simp) fun d hd => ?_, fun me σ st h => ?_⟩
    · simp [-absD_int, eai, c1, mkF, le_line, i20, eqD_int, decide_eq_true z, c3]
    · simp at hd
      subst hd
      exact .str _ _ (by decide +kernel)
    · subst z
      rw [pow_zero i.natAbs (by omega) (by omega) (by omega) h1] at h
      exact eask_div h
  obtain ⟨k, hk⟩ : ∃ k : Nat, k = i.natAbs := ⟨_, rfl⟩
  have er := fun st => raised a0 a1 k ai (by omega) (A := 200) (B := 200) h0 h1 (by omega) (by omega) (by omega) (by omega) (by omega) st
  have hc : ∀ σ : Sl, σ = σ → True := fun _ _ => trivial
  have hgk : Nat.gcd (a1 ^ k).natAbs (a0 ^ k).natAbs = 1 := by
    rw [Int.natAbs_pow, Int.natAbs_pow]
    exact Nat.Coprime.pow k k (by rw [Nat.gcd_comm] at hg; exact hg)
  by_cases c3 : i < 0
  · have z : ¬ a0 = 0 := fun z => c2 ⟨z, c3⟩
    have hz : a0 ^ k ≠ 0 := Int.pow_ne_zero z
    have hr := fun st => ratio_co hgk hz st
    have hp := fun d st h => pow_neg (d := d) (i := i) k (by omega) (by omega) (by omega) h0 h1 st h
    by_cases c4 : a0 ^ k < 0
    · have c5 : ¬ 0 < a0 ^ k := by omega
      have hr' := fun st => (hr st).trans (by rw [if_pos c4])
      obtain ⟨x, hx⟩ : ∃ x, x = a0 ^ k := ⟨_, rfl⟩
      obtain ⟨y, hy⟩ : ∃ y, y = a1 ^ k := ⟨_, rfl⟩
      rw [← hx, ← hy] at er hp hr'
      rw [← hx] at c4 c5
      refine ⟨.lst [.str "told", .tup [.int (-y), .int (-x)]], some (.int (-y)), some (.int (-x)), ?_, pl_told (plT _ _), fun me σ st h => ?_⟩
      · simp [-absD_int, eai, c1, mkF, le_line, i20, i21, eqD_int, decide_eq_false z, c3, er, c5]
      · rw [hp _ st (hr' st)] at h
        exact eask_told h
    · have c5 : 0 < a0 ^ k := by omega
      have hr' := fun st => (hr st).trans (by rw [if_neg c4])
      obtain ⟨x, hx⟩ : ∃ x, x = a0 ^ k := ⟨_, rfl⟩
      obtain ⟨y, hy⟩ : ∃ y, y = a1 ^ k := ⟨_, rfl⟩
      rw [← hx, ← hy] at er hp hr'
      rw [← hx] at c4 c5
      refine ⟨.lst [.str "told", .tup [.int y, .int x]], some (.int y), some (.int x), ?_, pl_told (plT _ _), fun me σ st h => ?_⟩
      · simp [-absD_int, eai, c1, mkF, le_line, i20, i21, eqD_int, decide_eq_false z, c3, er, c5]
      · rw [hp _ st (hr' st)] at h
        exact eask_told h
  · have hp := fun st => pow_pos (a0 := a0) (a1 := a1) (i := i) k (by omega) (by omega) h0 h1 st
    obtain ⟨x, hx⟩ : ∃ x, x = a0 ^ k := ⟨_, rfl⟩
    obtain ⟨y, hy⟩ : ∃ y, y = a1 ^ k := ⟨_, rfl⟩
    rw [← hx, ← hy] at er hp
    refine ⟨.lst [.str "told", .tup [.int x, .int y]], some (.int x), some (.int y), ?_, pl_told (plT _ _), fun me σ st h => ?_⟩
    · by_cases z : a0 = 0
      · simp [-absD_int, eai, c1, mkF, le_line, i20, i21, eqD_int, decide_eq_true z, c3, er]
      · simp [-absD_int, eai, c1, mkF, le_line, i20, i21, eqD_int, decide_eq_false z, c3, er]
    · rw [hp st] at h
      exact eask_told h
def odds (N : Int) : List D := [.non, .bl true, .bl false, .str "2", .str "", .tup [.int 2, .int 1], .tup [.int 1, .int 2], .lst [.int 2], .tup [], .int 66, .int (-66), .int N]
theorem odd_ok {N : Int} (hN : 64 < N) {d : D} (h : d ∈ odds N) : Pl 1 d ∧ ∀ (a : D) st, f_power_of [a, d] st = .exc (xPow d) st := by
  unfold odds at h
  simp only [List.mem_cons, List.not_mem_nil, or_false] at h
  rcases h with rfl | rfl | rfl | rfl | rfl | rfl | rfl | rfl | rfl | rfl | rfl | rfl
  · exact ⟨.non _, fun a st => pow_odd st (.inl rfl)⟩
  · exact ⟨.bl _ _, fun a st => pow_odd st (.inr ⟨rfl, rfl⟩)⟩
  · exact ⟨.bl _ _, fun a st => pow_odd st (.inr ⟨rfl, rfl⟩)⟩
  · exact ⟨.str _ _ (by decide +kernel), fun a st => pow_odd st (.inl rfl)⟩
  · exact ⟨.str _ _ (by decide +kernel), fun a st => pow_odd st (.inl rfl)⟩
  · exact ⟨plT _ _, fun a st => pow_odd st (.inl rfl)⟩
  · exact ⟨plT _ _, fun a st => pow_odd st (.inl rfl)⟩
  · exact ⟨plL (by simp) fun d hd => by simp at hd; subst hd; exact .int _ _, fun a st => pow_odd st (.inl rfl)⟩
  · exact ⟨.tup _ _ (by simp) fun d hd => by simp at hd, fun a st => pow_odd st (.inl rfl)⟩
  · exact ⟨.int _ _, fun a st => pow_out (by omega) st⟩
  · exact ⟨.int _ _, fun a st => pow_out (by omega) st⟩
  · exact ⟨.int _ _, fun a st => pow_out (by omega) st⟩
end K01

set_option exponentiation.threshold 2000
set_option linter.all false
set_option maxRecDepth 100000
set_option maxHeartbeats 2000000
namespace K01
open PySem PySem.Spec PyProof.Rows L2 Sim
theorem power_so {o : Option O} (h : BInv o) {a0 a1 : Int} (h0 : a0.natAbs < 2 ^ 200) (h1 : a1.natAbs < 2 ^ 200) (p1 : 1 ≤ a1) (hg : Nat.gcd a0.natAbs a1.natAbs = 1) : ∃ o', f__law_power_so [.ref 0, .tup [.int a0, .int a1]] [o] = .ok (.bl true) [o'] ∧ BInv o' := by
  obtain ⟨N20, hN20, e20⟩ := powT 20 (by decide)
  obtain ⟨N9, hN9, e9⟩ := powT 9 (by decide)
  obtain ⟨N59, hN59, e59⟩ := powT 59 (by decide)
  have e20' : ∀ st, powI (.int 10) (.int 20) st = .ok (.int N20) st := e20
  have e9' : ∀ st, powI (.int 10) (.int 9) st = .ok (.int N9) st := e9
  have e59' : ∀ st, powI (.int 10) (.int 59) st = .ok (.int N59) st := e59
  obtain ⟨r, o1, e1, b1, r0, r1⟩ := draw h (L := 133) (by decide) (by decide)
  obtain ⟨k, hk, o2, e2, b2⟩ := of_ints b1 (ns := [0, 1, 2, 3, 5, -1, -2, 64, -64, 65, -65, 40, -33, N20, r - 66]) (by simp) (by simp)
  obtain ⟨aa, haa, eaa⟩ := absN a0
  simp only [List.map_cons, List.map_nil] at e2
  have s2 : ∃ (k2 : Int) (o3 : Option O), (sIf (tOr (tOf (eBin gtI (eCB absD (aCons (eBin ixD (eVar 1) (eC (.int 0))) aNil)) (eBin powI (eC (.int 10)) (eC (.int 9))))) (tOf (eBin gtI (eBin ixD (eVar 1) (eC (.int 1))) (eBin powI (eC (.int 10)) (eC (.int 9)))))) (sSet 2 (eCall f__law_of (aCons (eVar 0) (aCons (eLst false (aCons (eVar 2) (aCons (eC (.int 2)) (aCons (eUn negI (eC (.int 3))) aNil)))) aNil)) [])) sNil) [some (.ref 0), some (.tup [.int a0, .int a1]), some (.int k), none, none, none, none] [o2] = .nx [some (.ref 0), some (.tup [.int a0, .int a1]), some (.int k2), none, none, none, none] [o3] ∧ BInv o3 := by
    obtain ⟨k2, hk2, o3, e3, b3⟩ := of_ints b2 (ns := [k, 2, -3]) (by simp) (by simp)
    simp only [List.map_cons, List.map_nil] at e3
    by_cases c1 : N9 < aa
    · exact ⟨k2, o3, by simp [-absD_int, i20, i21, eaa, e9', c1, mkF, le_line, e3], b3⟩
    · by_cases c2 : N9 < a1
      · exact ⟨k2, o3, by simp [-absD_int, i20, i21, eaa, e9', c1, c2, mkF, le_line, e3], b3⟩
      · exact ⟨k, o2, by simp [-absD_int, i20, i21, eaa, e9', c1, c2], b2⟩
  obtain ⟨k2, o3, e3, b3⟩ := s2
  obtain ⟨d, x, y, e4, pl, ea⟩ := due h0 h1 p1 hg k2 (.ref 0) [o3]
  have l1 := fun st => like (plL (n := 2) (ds := [d, d]) (by simp) (fun z hz => by
    simp at hz
    subst hz
    exact pl)) 6 st (by decide)
  have ea' := fun me σ st h => ea me σ st h
  obtain ⟨v, hv, o4, e5, b4⟩ := of_lst b3 (ds := odds N59) (by simp [odds]) (by simp [odds])
  obtain ⟨pv, ep⟩ := odd_ok (by rw [hN59]; decide) hv
  unfold odds at e5
  have l2 := fun st => like (plL (n := 1) (ds := [.str "InvalidPower", v]) (by simp) (fun z hz => by
    simp at hz
    rcases hz with rfl | rfl
    · exact .str _ _ (by decide +kernel)
    · exact pv)) 6 st (by decide)
  refine ⟨o4, ?_, b4⟩
  unfold f__law_power_so
  refine def_rt rfl ?_ (Nat.le_refl _)
  show m__law_power_so [some (.ref 0), some (.tup [.int a0, .int a1]), none, none, none, none, none] [o] = _
  unfold m__law_power_so
  refine (seq_nx (σ1 := [some (.ref 0), some (.tup [.int a0, .int a1]), some (.int k), none, none, none, none]) (st1 := [o2]) (by
    simp [e20', e1, mkF, le_line, e2])).trans ?_
  refine (seq_nx e3).trans ?_
  refine (seq_nx e4).trans ?_
  refine (seq_nx (σ1 := [some (.ref 0), some (.tup [.int a0, .int a1]), some (.int k2), none, some d, x, y]) (st1 := [o3]) (by
    simp [ea', eCallK, gB, mkF, le_line, l1])).trans ?_
  refine (seq_nx (σ1 := [some (.ref 0), some (.tup [.int a0, .int a1]), some (.int k2), some v, some d, x, y]) (st1 := [o4]) (by
    simp [e59', mkF, le_line, two_le_line, e5])).trans ?_
  have k3 := fun me σ st h => eask_pow (v := v) (me := me) (σ := σ) (st := st) h
  simp [k3, ep, mkF, le_line, l2]
end K01

set_option exponentiation.threshold 2000
set_option linter.all false
set_option maxRecDepth 100000
set_option maxHeartbeats 4000000
namespace K01
open PySem PySem.Spec PyProof.Rows L2 Sim
theorem unds_ints (n : Nat) : ∀ xs : List Int, D.unds n (xs.map .int) = true
  | [] => rfl
  | x :: r => by
    rw [List.map_cons]
    unfold D.unds
    rw [unds_ints n r]
    rfl
theorem bag_below {o : Option O} (h : BInv o) (n : Nat) : stoBelow n [o] = true := by
  obtain ⟨xs, i, cur, seed, cnt, rfl, _⟩ := h.ex
  show ((D.unds n (bagL xs i cur seed cnt)) && true) = true
  have : D.unds n (bagL xs i cur seed cnt) = (D.unds n (xs.map .int) && true) := by
    unfold bagL
    simp [D.unds, D.und]
  rw [this, unds_ints]
  rfl
theorem frz_of {m : Em} {σ : Sl} {o : Option O} {d : D} {st1 : Sto} (h : BInv o) (e : m σ [o] = .ok (.ref 1) st1) (f : frzD (.ref 1) st1 = .ok d [o, none]) (hu : D.und 1 d = true) : eFrz m σ [o] = .ok d [o] := by
  have b := bag_below h 1
  unfold eFrz
  rw [e]
  show (match frzD (.ref 1) st1 with
      | .ok d2 st2 => finR 1 d2 st2
      | .exc x st2 => .exc x st2
      | .bad => .bad) = _
  rw [f]
  show finR 1 d [o, none] = _
  unfold finR
  have q : (D.und 1 d && stoBelow 1 ([o, none].take 1)) = true := by
    show (D.und 1 d && stoBelow 1 [o]) = true
    rw [b, hu]
    rfl
  rw [if_neg (by simp), if_pos q]
  rfl
def s3F : List (Str × D) := [("_numbers", .lst [.tup [.int 0, .int 1], .tup [.int 1, .int 1], .tup [.int 0, .int 1], .tup [.int 0, .int 1]]), ("order", .int 3), ("lead", .tup [.int 1, .int 1]), ("height", .int 1), ("kind", .str "still"), ("flat", .non), ("strength", .non)]
def s2F : List (Str × D) := [("_numbers", .lst [.tup [.int 0, .int 1], .tup [.int 1, .int 1], .tup [.int 0, .int 1]]), ("order", .int 2), ("lead", .tup [.int 1, .int 1]), ("height", .int 1), ("kind", .str "still"), ("flat", .non), ("strength", .non)]
def r2F : List (Str × D) := [("_numbers", .lst [.tup [.int 1, .int 2], .tup [.int 0, .int 1], .tup [.int 0, .int 1]]), ("order", .int 2), ("height", .int 0)]
def r3F : List (Str × D) := [("_numbers", .lst [.tup [.int 0, .int 1], .tup [.int 0, .int 1], .tup [.int 0, .int 1], .tup [.int 0, .int 1]]), ("order", .int 3), ("height", .non)]
abbrev mkS : Em := (eMkP "Step" f_Step___init__ 1 0 false (aCons (eCall f_unit_line (aCons (eC (.int 0)) (aCons (eVar 0) aNil)) []) aNil) aNil)
abbrev mkR : Em := (eMkP "Row" f_Row___init__ 1 0 false (aCons (eBin (catL false) (eLst false (aCons (eVar 0) aNil)) (eComp false [2] (iRange1 (aCons (eVar 1) aNil)) (gN 2) tTrue (eC (.tup [.int 0, .int 1])))) aNil) aNil)
theorem s3_0 (o : Option O) : mkS [some (.int 3)] [o] = .ok (.ref 1) [o, some (.ins "Step" s3F)] := by kernel_rfl
theorem s2_0 (o : Option O) : mkS [some (.int 2)] [o] = .ok (.ref 1) [o, some (.ins "Step" s2F)] := by kernel_rfl
theorem r2_0 (o : Option O) : mkR [some (.tup [.int 1, .int 2]), some (.int 2), none] [o] = .ok (.ref 1) [o, some (.ins "Row" r2F)] := by kernel_rfl
theorem r3_0 (o : Option O) : mkR [some (.tup [.int 0, .int 1]), some (.int 3), none] [o] = .ok (.ref 1) [o, some (.ins "Row" r3F)] := by kernel_rfl
theorem ord2 (o : Option O) : f_is_order [.int 2] [o] = .ok (.bl true) [o] := by kernel_rfl
theorem ord3 (o : Option O) : f_is_order [.int 3] [o] = .ok (.bl true) [o] := by kernel_rfl
theorem isf12 (o : Option O) : f_is_fraction [.tup [.int 1, .int 2]] [o] = .ok (.bl true) [o] := by kernel_rfl
theorem isf01 (o : Option O) : f_is_fraction [.tup [.int 0, .int 1]] [o] = .ok (.bl true) [o] := by kernel_rfl
theorem still3 {o : Option O} (h : BInv o) : f_Step_still [.int 3] [o] = .ok (.ins "Step" s3F) [o] := by
  unfold f_Step_still
  refine def_rt rfl ?_ (Nat.le_refl _)
  show m_Step_still [some (.int 3)] [o] = _
  unfold m_Step_still
  refine (seq_nx (σ1 := [some (.int 3)]) (st1 := [o]) (by simp [ord3])).trans ?_
  unfold sRet
  rw [frz_of h (s3_0 o) rfl rfl]
  rfl
theorem still2 {o : Option O} (h : BInv o) : f_Step_still [.int 2] [o] = .ok (.ins "Step" s2F) [o] := by
  unfold f_Step_still
  refine def_rt rfl ?_ (Nat.le_refl _)
  show m_Step_still [some (.int 2)] [o] = _
  unfold m_Step_still
  refine (seq_nx (σ1 := [some (.int 2)]) (st1 := [o]) (by simp [ord2])).trans ?_
  unfold sRet
  rw [frz_of h (s2_0 o) rfl rfl]
  rfl
theorem const2 {o : Option O} (h : BInv o) : f_Row_constant [.tup [.int 1, .int 2], .int 2] [o] = .ok (.ins "Row" r2F) [o] := by
  unfold f_Row_constant
  refine def_rt rfl ?_ (Nat.le_refl _)
  show m_Row_constant [some (.tup [.int 1, .int 2]), some (.int 2), none] [o] = _
  unfold m_Row_constant
  refine (seq_nx (σ1 := [some (.tup [.int 1, .int 2]), some (.int 2), none]) (st1 := [o]) (by simp [isf12])).trans ?_
  refine (seq_nx (σ1 := [some (.tup [.int 1, .int 2]), some (.int 2), none]) (st1 := [o]) (by simp [ord2])).trans ?_
  unfold sRet
  rw [frz_of h (r2_0 o) rfl rfl]
  rfl
theorem const3 {o : Option O} (h : BInv o) : f_Row_constant [.tup [.int 0, .int 1], .int 3] [o] = .ok (.ins "Row" r3F) [o] := by
  unfold f_Row_constant
  refine def_rt rfl ?_ (Nat.le_refl _)
  show m_Row_constant [some (.tup [.int 0, .int 1]), some (.int 3), none] [o] = _
  unfold m_Row_constant
  refine (seq_nx (σ1 := [some (.tup [.int 0, .int 1]), some (.int 3), none]) (st1 := [o]) (by simp [isf01])).trans ?_
  refine (seq_nx (σ1 := [some (.tup [.int 0, .int 1]), some (.int 3), none]) (st1 := [o]) (by simp [ord3])).trans ?_
  unfold sRet
  rw [frz_of h (r3_0 o) rfl rfl]
  rfl
end K01

set_option exponentiation.threshold 2000
set_option linter.all false
set_option maxRecDepth 100000
set_option maxHeartbeats 4000000
namespace Sim
open PySem PySem.Spec PyProof.Rows L2
theorem eqD_tup2 (a b c d : Int) (st : Sto) : eqD (.tup [.int a, .int b]) (.tup [.int c, .int d]) st = .ok (.bl (decide (a = c) && decide (b = d))) st := by
  show Res.ok (D.bl ((a == c) && ((b == d) && true))) st = _
  rw [Bool.and_true]
  rfl
theorem lenT (ds : List D) (st : Sto) : lenD [.tup ds] st = .ok (.int ds.length) st := rfl
end Sim
namespace K01
open PySem PySem.Spec PyProof.Rows L2 Sim
/-- both answer alike -/
def Th (d : D) : Prop := ∃ b : Bool, (∀ st, f_is_fraction [d] st = .ok (.bl b) st) ∧ ∀ st, f__law_is [d] st = .ok (.bl b) st
theorem isT (ds : List D) (st : Sto) : isiD (isB "tuple" clsL) (.tup ds) st = .ok (.bl true) st := rfl
theorem th_no {d : D} (h : ∀ st, isiD (isB "tuple" clsL) d st = .ok (.bl false) st) : Th d := by
  refine ⟨false, fun st => ?_, fun st => ?_⟩
  · unfold f_is_fraction
    refine def_rt rfl ?_ (Nat.le_refl _)
    show m_is_fraction [some d, none] st = _
    unfold m_is_fraction
    simp [h]
  · unfold f__law_is
    refine def_rt rfl ?_ (Nat.le_refl _)
    show m__law_is [some d, none] st = _
    unfold m__law_is
    simp [h]
theorem th_len {ds : List D} {n : Int} (hn : n = (ds.length : Nat)) (h : n ≠ 2) : Th (.tup ds) := by
  have hl : ∀ st, lenD [.tup ds] st = .ok (.int n) st := fun st => by rw [hn]; exact lenT ds st
  refine ⟨false, fun st => ?_, fun st => ?_⟩
  · unfold f_is_fraction
    refine def_rt rfl ?_ (Nat.le_refl _)
    show m_is_fraction [some (.tup ds), none] st = _
    unfold m_is_fraction
    simp [isT, hl, neD_int, decide_eq_false h]
  · unfold f__law_is
    refine def_rt rfl ?_ (Nat.le_refl _)
    show m__law_is [some (.tup ds), none] st = _
    unfold m__law_is
    simp [isT, hl, neD_int, decide_eq_false h]
/-- what the two tests of a part say -/
def Pt (d : D) (b1 b2 : Bool) : Prop := ∀ st, isiD (isB "int" clsL) d st = .ok (.bl b1) st ∧ isiD (isB "bool" clsL) d st = .ok (.bl b2) st
theorem th_two {d e : D} {b1 b2 c1 c2 : Bool} (hd : Pt d b1 b2) (he : Pt e c1 c2) (h : ((b1 && !b2) && (c1 && !c2)) = false) : Th (.tup [d, e]) := by
  have hl : ∀ st, lenD [.tup [d, e]] st = .ok (.int 2) st := fun st => rfl
  have d1 := fun st => (hd st).1
  have d2 := fun st => (hd st).2
  have e1 := fun st => (he st).1
  have e2 := fun st => (he st).2
  refine ⟨false, fun st => ?_, fun st => ?_⟩
  · unfold f_is_fraction
    refine def_rt rfl ?_ (Nat.le_refl _)
    show m_is_fraction [some (.tup [d, e]), none] st = _
    unfold m_is_fraction
    cases b1 <;> cases b2 <;> cases c1 <;> cases c2 <;> first | (exact absurd h (by decide)) | simp [isT, hl, neD_int, Sim.forM, inTurn, d1, d2, e1, e2]
  · unfold f__law_is
    refine def_rt rfl ?_ (Nat.le_refl _)
    show m__law_is [some (.tup [d, e]), none] st = _
    unfold m__law_is
    have ha : ∀ (x y : Bool), allD [.lst [.bl x, .bl y]] st = .ok (.bl (x && (y && true))) st := fun x y => by cases x <;> cases y <;> rfl
    cases b1 <;> cases b2 <;> cases c1 <;> cases c2 <;> first | (exact absurd h (by decide)) | simp [isT, hl, neD_int, eComp, compM, compF, wipeD, d1, d2, e1, e2, mkF, le_line, two_le_line, ha]
theorem pt_int (i : Int) : Pt (.int i) true false := fun _ => ⟨rfl, rfl⟩
theorem pt_bl (b : Bool) : Pt (.bl b) true true := fun _ => ⟨rfl, rfl⟩
theorem pt_non : Pt .non false false := fun _ => ⟨rfl, rfl⟩
theorem pt_str (s : Str) : Pt (.str s) false false := fun _ => ⟨rfl, rfl⟩
theorem pt_tup (ds : List D) : Pt (.tup ds) false false := fun _ => ⟨rfl, rfl⟩
theorem th_int {x y : Int} (hy : y.natAbs < 2 ^ 1000) : Th (.tup [.int x, .int y]) := by
  have hl : ∀ st, lenD [.tup [.int x, .int y]] st = .ok (.int 2) st := fun st => rfl
  have d1 := fun i st => (pt_int i st).1
  have d2 := fun i st => (pt_int i st).2
  have ha : ∀ st, allD [.lst [.bl true, .bl true]] st = .ok (.bl true) st := fun st => rfl
  obtain ⟨gi, hgi⟩ : ∃ gi : Int, gi = ((Nat.gcd x.natAbs y.natAbs : Nat) : Int) := ⟨_, rfl⟩
  have eg : ∀ st, gcdD [.int x, .int y] st = .ok (.int gi) st := fun st => by rw [hgi]; rfl
  by_cases c : 1 ≤ y
  · obtain ⟨P, Q, e1, g1, g2, _, _, g5, _⟩ := low x y (by omega) (a := 1000) hy (by decide)
    by_cases cg : gi = 1
    · have := g5 (by omega) (by omega)
      obtain ⟨rfl, rfl⟩ := this
      refine ⟨true, fun st => ?_, fun st => ?_⟩
      · unfold f_is_fraction
        refine def_rt rfl ?_ (Nat.le_refl _)
        show m_is_fraction [some (.tup [.int P, .int Q]), none] st = _
        unfold m_is_fraction
        simp [-gcdD_int, isT, hl, neD_int, Sim.forM, inTurn, d1, d2, i20, i21, c, eg, eqD_int, decide_eq_true cg]
      · unfold f__law_is
        refine def_rt rfl ?_ (Nat.le_refl _)
        show m__law_is [some (.tup [.int P, .int Q]), none] st = _
        unfold m__law_is
        simp [isT, hl, neD_int, eComp, compM, compF, wipeD, d1, d2, mkF, le_line, two_le_line, ha, i20, i21, c, e1, eqD_tup2]
    · refine ⟨false, fun st => ?_, fun st => ?_⟩
      · unfold f_is_fraction
        refine def_rt rfl ?_ (Nat.le_refl _)
        show m_is_fraction [some (.tup [.int x, .int y]), none] st = _
        unfold m_is_fraction
        simp [-gcdD_int, isT, hl, neD_int, Sim.forM, inTurn, d1, d2, i20, i21, c, eg, eqD_int, decide_eq_false cg]
      · have hne : (decide (P = x) && decide (Q = y)) = false := by
          by_cases z : P = x ∧ Q = y
          · rw [z.1, z.2] at g2
            omega
          · by_cases z1 : P = x
            · have z2 : ¬ Q = y := fun w => z ⟨z1, w⟩
              simp [z2]
            · simp [z1]
        unfold f__law_is
        refine def_rt rfl ?_ (Nat.le_refl _)
        show m__law_is [some (.tup [.int x, .int y]), none] st = _
        unfold m__law_is
        simp [-Bool.and_eq_false_imp, isT, hl, neD_int, eComp, compM, compF, wipeD, d1, d2, mkF, le_line, two_le_line, ha, i20, i21, c, e1, eqD_tup2, hne]
  · refine ⟨false, fun st => ?_, fun st => ?_⟩
    · unfold f_is_fraction
      refine def_rt rfl ?_ (Nat.le_refl _)
      show m_is_fraction [some (.tup [.int x, .int y]), none] st = _
      unfold m_is_fraction
      simp [-gcdD_int, isT, hl, neD_int, Sim.forM, inTurn, d1, d2, i20, i21, c]
    · unfold f__law_is
      refine def_rt rfl ?_ (Nat.le_refl _)
      show m__law_is [some (.tup [.int x, .int y]), none] st = _
      unfold m__law_is
      simp [isT, hl, neD_int, eComp, compM, compF, wipeD, d1, d2, mkF, le_line, two_le_line, ha, i20, i21, c]
end K01

set_option exponentiation.threshold 2000
set_option linter.all false
set_option maxRecDepth 100000
set_option maxHeartbeats 4000000
namespace K01
open PySem PySem.Spec PyProof.Rows L2 Sim
def some1 (a0 a1 p q : Int) (s : Str) : List D := [.tup [.int a0, .int a1], .lst [.int p, .int q], .tup [.int p, .int (-q)], .tup [.int (-p), .int q], .tup [.int (p * 2), .int (q * 2)], .tup [.int p, .int 0], .tup [.int q, .int p], .tup [.int p, .int q, .int 1], .tup [.int p], .tup [.tup [.int a0, .int a1], .int q], .int p, .tup [.str s, .int q], .tup [.int p, .non]]
def some2 (p q : Int) : List D := [.tup [.bl true, .int 1], .tup [.int 1, .bl true], .tup [.bl false, .int 1], .tup [.int 0, .int 1], .tup [.int 0, .int 2], .tup [.int 0, .int (-1)], .tup [.int 1, .int 1], .tup [.int p, .int (q + 1)], .tup [.int (p + q), .int q], .non, .bl true, .str "1/2", .str ""]
def some3 (a0 a1 : Int) : List D := [.tup [], .lst [], .lst [.tup [.int a0, .int a1]], .tup [.tup [.int a0, .int a1]], .ins "Step" s3F, .tup [.ins "Step" s2F, .int 1], .ins "Row" r2F, .tup [.int 1, .ins "Row" r3F], .tup [.tup [.int 1, .int 2], .tup [.int 1, .int 3]]]
theorem pt_step (fs : List (Str × D)) : Pt (.ins "Step" fs) false false := fun _ => ⟨rfl, rfl⟩
theorem pt_row (fs : List (Str × D)) : Pt (.ins "Row" fs) false false := fun _ => ⟨rfl, rfl⟩
theorem some_th {a0 a1 p q : Int} {s : Str} (h1 : a1.natAbs < 2 ^ 200) (hp : p.natAbs < 2 ^ 200) (hq : q.natAbs < 2 ^ 200) {d : D} (h : d ∈ some1 a0 a1 p q s ++ some2 p q ++ some3 a0 a1) : Th d := by
  have t : (2 : Nat) ^ 200 < 2 ^ 300 := by decide
  have t2 : (2 : Nat) ^ 300 < 2 ^ 1000 := by decide
  rcases List.mem_append.mp h with h | h
  · rcases List.mem_append.mp h with h | h
    · unfold some1 at h
      simp only [List.mem_cons, List.not_mem_nil, or_false] at h
      rcases h with rfl | rfl | rfl | rfl | rfl | rfl | rfl | rfl | rfl | rfl | rfl | rfl | rfl
      · exact th_int (by omega)
      · exact th_no fun _ => rfl
      · exact th_int (by omega)
      · exact th_int (by omega)
      · exact th_int (by omega)
      · exact th_int (by decide)
      · exact th_int (by omega)
      · exact th_len (n := 3) rfl (by decide)
      · exact th_len (n := 1) rfl (by decide)
      · exact th_two (pt_tup _) (pt_int _) rfl
      · exact th_no fun _ => rfl
      · exact th_two (pt_str _) (pt_int _) rfl
      · exact th_two (pt_int _) pt_non rfl
    · unfold some2 at h
      simp only [List.mem_cons, List.not_mem_nil, or_false] at h
      rcases h with rfl | rfl | rfl | rfl | rfl | rfl | rfl | rfl | rfl | rfl | rfl | rfl | rfl
      · exact th_two (pt_bl _) (pt_int _) rfl
      · exact th_two (pt_int _) (pt_bl _) rfl
      · exact th_two (pt_bl _) (pt_int _) rfl
      · exact th_int (by decide)
      · exact th_int (by decide)
      · exact th_int (by decide)
      · exact th_int (by decide)
      · exact th_int (by omega)
      · exact th_int (by omega)
      · exact th_no fun _ => rfl
      · exact th_no fun _ => rfl
      · exact th_no fun _ => rfl
      · exact th_no fun _ => rfl
  · unfold some3 at h
    simp only [List.mem_cons, List.not_mem_nil, or_false] at h
    rcases h with rfl | rfl | rfl | rfl | rfl | rfl | rfl | rfl | rfl
    · exact th_len (n := 0) rfl (by decide)
    · exact th_no fun _ => rfl
    · exact th_no fun _ => rfl
    · exact th_len (n := 1) rfl (by decide)
    · exact th_no fun _ => rfl
    · exact th_two (pt_step _) (pt_int _) rfl
    · exact th_no fun _ => rfl
    · exact th_two (pt_int _) (pt_row _) rfl
    · exact th_two (pt_tup _) (pt_tup _) rfl
theorem any {o : Option O} (h : BInv o) {a0 a1 : Int} (h0 : a0.natAbs < 2 ^ 200) (h1 : a1.natAbs < 2 ^ 200) : ∃ (d : D) (o' : Option O), f__law_any [.ref 0, .tup [.int a0, .int a1]] [o] = .ok d [o'] ∧ BInv o' ∧ Th d := by
  obtain ⟨N, hN, eN⟩ := powT 59 (by decide)
  have eN' : ∀ st, powI (.int 10) (.int 59) st = .ok (.int N) st := eN
  obtain ⟨aa, haa, eaa⟩ := absN a0
  have s1 : ∃ p q : Int, (sAsg (eIf (tAnd (tOf (eBin leI (eCB absD (aCons (eBin ixD (eVar 1) (eC (.int 0))) aNil)) (eBin powI (eC (.int 10)) (eC (.int 59))))) (tOf (eBin leI (eBin ixD (eVar 1) (eC (.int 1))) (eBin powI (eC (.int 10)) (eC (.int 59)))))) (eVar 1) (eTup (aCons (eUn negI (eC (.int 3))) (aCons (eC (.int 2)) aNil)))) (gT 2 (gsCons (gN 3) (gsCons (gN 4) gsNil)))) [some (.ref 0), some (.tup [.int a0, .int a1]), none, none, none] [o] = .nx [some (.ref 0), some (.tup [.int a0, .int a1]), none, some (.int p), some (.int q)] [o] ∧ p.natAbs < 2 ^ 200 ∧ q.natAbs < 2 ^ 200 := by
    by_cases c : aa ≤ N ∧ a1 ≤ N
    · exact ⟨a0, a1, by simp [-absD_int, i20, i21, eaa, eN', c.1, c.2], h0, h1⟩
    · refine ⟨-3, 2, ?_, by decide, by decide⟩
      by_cases c1 : aa ≤ N
      · have c2 : ¬ a1 ≤ N := fun z => c ⟨c1, z⟩
        simp [-absD_int, i20, i21, eaa, eN', c1, c2, two_le_line]
      · simp [-absD_int, i20, i21, eaa, eN', c1, two_le_line]
  obtain ⟨p, q, e1, hp, hq⟩ := s1
  obtain ⟨s, es⟩ : ∃ s : Str, ∀ st, strI [.int p] st = .ok (.str s) st := ⟨_, fun st => by
    unfold strI
    simp only
    rw [if_pos (Nat.lt_of_lt_of_le (log2_lt' hp (by decide)) (by decide))]⟩
  have m := fun i st => mulI_int i 2 st (mulC i (by decide))
  obtain ⟨d, hd, o', e2, b2⟩ := of_lst h (ds := some1 a0 a1 p q s ++ some2 p q ++ some3 a0 a1) (by simp [some1]) (by simp [some1, some2, some3])
  refine ⟨d, o', ?_, b2, some_th h1 hp hq hd⟩
  have t3 := still3 h
  have t2 := still2 h
  have k2 := const2 h
  have k3 := const3 h
  have two : ∀ (x y : Em) σ st a b, x σ st = .ok a st → y σ st = .ok b st → eTup (aCons x (aCons y aNil)) σ st = .ok (.tup [a, b]) st := fun x y σ st a b e1 e2 => by
    simp [e1, e2, two_le_line]
  generalize hs3 : s3F = f3 at t3
  generalize hs2 : s2F = f2 at t2
  generalize hr2 : r2F = g2 at k2
  generalize hr3 : r3F = g3 at k3
  unfold some3 at e2
  rw [hs3, hs2, hr2, hr3] at e2
  unfold f__law_any
  refine def_rt rfl ?_ (Nat.le_refl _)
  show m__law_any [some (.ref 0), some (.tup [.int a0, .int a1]), none, none, none] [o] = _
  unfold m__law_any
  refine (seq_nx e1).trans ?_
  refine (seq_nx (σ1 := [some (.ref 0), some (.tup [.int a0, .int a1]), some (.lst (some1 a0 a1 p q s)), some (.int p), some (.int q)]) (st1 := [o]) ?_).trans ?_
  · simp [es, m, mkF, le_line, some1]
  refine (seq_nx (σ1 := [some (.ref 0), some (.tup [.int a0, .int a1]), some (.lst (some1 a0 a1 p q s ++ some2 p q)), some (.int p), some (.int q)]) (st1 := [o]) ?_).trans ?_
  · have : (some1 a0 a1 p q s ++ some2 p q).length ≤ 10000 := by simp [some1, some2]
    generalize some1 a0 a1 p q s = l1 at this ⊢
    simp [mkF, le_line, catE, some2] at this ⊢
    simp [mkF, le_line, this]
  have hl : (some1 a0 a1 p q s ++ some2 p q).length ≤ 26 := by simp [some1, some2]
  generalize some1 a0 a1 p q s ++ some2 p q = l1 at e2 hl ⊢
  refine (seq_nx (σ1 := [some (.ref 0), some (.tup [.int a0, .int a1]), some (.lst (l1 ++ [.tup [], .lst [], .lst [.tup [.int a0, .int a1]], .tup [.tup [.int a0, .int a1]], .ins "Step" f3, .tup [.ins "Step" f2, .int 1], .ins "Row" g2, .tup [.int 1, .ins "Row" g3], .tup [.tup [.int 1, .int 2], .tup [.int 1, .int 3]]])), some (.int p), some (.int q)]) (st1 := [o]) ?_).trans ?_
  · have h9 : (l1 ++ [D.tup [], .lst [], .lst [.tup [.int a0, .int a1]], .tup [.tup [.int a0, .int a1]], .ins "Step" f3, .tup [.ins "Step" f2, .int 1], .ins "Row" g2, .tup [.int 1, .ins "Row" g3], .tup [.tup [.int 1, .int 2], .tup [.int 1, .int 3]]]).length ≤ 10000 := by
      rw [List.length_append]
      simp
      omega
    have hcat := fun st => (catE l1 [D.tup [], .lst [], .lst [.tup [.int a0, .int a1]], .tup [.tup [.int a0, .int a1]], .ins "Step" f3, .tup [.ins "Step" f2, .int 1], .ins "Row" g2, .tup [.int 1, .ins "Row" g3], .tup [.tup [.int 1, .int 2], .tup [.int 1, .int 3]]] st).trans (mkF _ h9 st)
    simp [t3, t2, k2, k3, mkF, le_line, hcat]
  · simp [e2]
end K01

set_option exponentiation.threshold 2000
set_option linter.all false
set_option maxRecDepth 100000
set_option maxHeartbeats 4000000
namespace K01
open PySem PySem.Spec PyProof.Rows L2 Sim
abbrev turnB : Sm := (sSeq (sSet 7 (eCall f__law_any (aCons (eVar 1) (aCons (eCall f__law_of (aCons (eVar 1) (aCons (eLst false (aCons (eVar 5) (aCons (eVar 6) (aCons (eTup (aCons (eC (.int 3)) (aCons (eC (.int 2)) aNil))) aNil)))) aNil)) []) aNil)) [])) (sIf (tNot (tOf (eCall (f__law_like 6) (aCons (eLst false (aCons (eCall f_is_fraction (aCons (eVar 7) aNil) []) (aCons (eCallK f_is_fraction 0 1 false aNil (aCons (eVar 7) aNil)) aNil))) (aCons (eLst false (aCons (eCall f__law_is (aCons (eVar 7) aNil) []) (aCons (eCall f__law_is (aCons (eVar 7) aNil) []) aNil))) aNil)) []))) (sRet (eC (.bl false))) sNil))
abbrev pickB : Sm := (sIf (tOf (eBin eqD (eVar 3) (eC (.int 0)))) (sSet 6 (eVar 5)) (sIf (tOf (eBin eqD (eVar 3) (eC (.int 1)))) (sSet 6 (eCall f__law_neg (aCons (eVar 5) aNil) [])) (sIf (tOf (eBin eqD (eVar 3) (eC (.int 2)))) (sPar 5 6 (eCall f__law_number (aCons (eVar 1) aNil) []) (eCall f__law_number (aCons (eVar 1) aNil) [])) (sIf (tOf (eBin eqD (eVar 3) (eC (.int 3)))) (sSet 6 (eTup (aCons (eC (.int 0)) (aCons (eC (.int 1)) aNil)))) sNil))))
abbrev dB : Sm := (sIf (tOr (tNot (tOf (eCall f__law_deeds_so (aCons (eVar 5) (aCons (eVar 6) aNil)) []))) (tNot (tOf (eCall f__law_deeds_so (aCons (eVar 6) (aCons (eVar 5) aNil)) [])))) (sRet (eC (.bl false))) sNil)
abbrev rB : Sm := (sIf (tOr (tNot (tOf (eCall f__law_ratio_so (aCons (eVar 1) (aCons (eCall f__law_big (aCons (eVar 1) aNil) []) (aCons (eCall f__law_big (aCons (eVar 1) aNil) []) aNil))) []))) (tNot (tOf (eCall f__law_ratio_so (aCons (eVar 1) (aCons (eBin ixD (eVar 5) (eC (.int 1))) (aCons (eBin ixD (eVar 6) (eC (.int 0))) aNil))) [])))) (sRet (eC (.bl false))) sNil)
abbrev pB : Sm := (sIf (tOr (tNot (tOf (eCall f__law_power_so (aCons (eVar 1) (aCons (eVar 5) aNil)) []))) (tNot (tOf (eCall f__law_power_so (aCons (eVar 1) (aCons (eCall f__law_number (aCons (eVar 1) aNil) []) aNil)) [])))) (sRet (eC (.bl false))) sNil)
abbrev lapB : Sm := (sSeq (sPar 5 6 (eCall f__law_wide (aCons (eVar 1) aNil) []) (eCall f__law_wide (aCons (eVar 1) aNil) [])) (sSeq (sSet 3 (eCall f__law_draw (aCons (eVar 1) (aCons (eC (.int 8)) aNil)) [])) (sSeq pickB (sSeq dB (sSeq rB (sSeq pB (sFor (iRange1 (aCons (eC (.int 4)) aNil)) (gN 4) turnB)))))))
theorem fr_mono {A B : Nat} (h : A ≤ B) {d : D} (f : Fr A d) : Fr B d := by
  obtain ⟨P, Q, e, a, b, c, g⟩ := f
  exact ⟨P, Q, e, a, by omega, by omega, g⟩
theorem turns {a b : D} (ha : Fr (10 ^ 60) a) (hb : Fr (10 ^ 60) b) : ∀ (l : List D) (x y z u v : Option D) (o : Option O), BInv o → ∃ (u' v' : Option D) (o' : Option O), Sim.forM (inTurn (gN 4) turnB) l [x, some (.ref 0), y, z, u, some a, some b, v] [o] = .nx [x, some (.ref 0), y, z, u', some a, some b, v'] [o'] ∧ BInv o'
  | [], x, y, z, u, v, o, h => ⟨u, v, o, rfl, h⟩
  | d :: l, x, y, z, u, v, o, h => by
    have t := t60
    obtain ⟨c, hc, o1, e1, b1⟩ := of_lst h (ds := [a, b, .tup [.int 3, .int 2]]) (by simp) (by simp)
    have fc : Fr (10 ^ 60) c := by
      simp only [List.mem_cons, List.not_mem_nil, or_false] at hc
      rcases hc with rfl | rfl | rfl
      · exact ha
      · exact hb
      · exact ⟨3, 2, rfl, by decide, by decide, by decide, by decide⟩
    obtain ⟨P, Q, rfl, q1, q2, q3, q4⟩ := fc
    obtain ⟨w, o2, e2, b2, bb, i1, i2⟩ := any b1 (a0 := P) (a1 := Q) (by omega) (by omega)
    have hl := fun st => like (plL (n := 0) (ds := [.bl bb, .bl bb]) (by simp) (fun z hz => by
      simp at hz
      subst hz
      exact .bl _ _)) 6 st (by decide)
    obtain ⟨u', v', o', e3, b3⟩ := turns ha hb l x y z (some d) (some w) o2 b2
    refine ⟨u', v', o', ?_, b3⟩
    rw [← e3]
    conv => lhs; unfold Sim.forM
    simp [inTurn, mkF, le_line, two_le_line, e1, e2, i1, i2, eCallK, gB, hl]
theorem fr01 : Fr (10 ^ 60) (.tup [.int 0, .int 1]) := ⟨0, 1, rfl, by decide, by decide, by decide, by decide⟩
theorem lap {o : Option O} (h : BInv o) (x y z u a b v : Option D) : ∃ (z' u' a' b' v' : Option D) (o' : Option O), lapB [x, some (.ref 0), y, z, u, a, b, v] [o] = .nx [x, some (.ref 0), y, z', u', a', b', v'] [o'] ∧ BInv o' := by
  have t := t60
  obtain ⟨a1, o1, e1, b1, f1⟩ := wide h
  obtain ⟨a2, o2, e2, b2, f2⟩ := wide b1
  obtain ⟨pk, o3, e3, b3, p0, p1⟩ := draw b2 (L := 8) (by decide) (by decide)
  have s3 : ∃ (a' b' : D) (o4 : Option O), pickB [x, some (.ref 0), y, some (.int pk), u, some a1, some a2, v] [o3] = .nx [x, some (.ref 0), y, some (.int pk), u, some a', some b', v] [o4] ∧ BInv o4 ∧ Fr (10 ^ 60) a' ∧ Fr (10 ^ 60) b' := by
    by_cases c0 : pk = 0
    · exact ⟨a1, a1, o3, by simp [eqD_int, decide_eq_true c0], b3, f1, f1⟩
    by_cases c1 : pk = 1
    · obtain ⟨P, Q, rfl, q1, q2, q3, q4⟩ := f1
      refine ⟨_, _, o3, ?_, b3, ⟨P, Q, rfl, q1, q2, q3, q4⟩, ⟨-P, Q, rfl, q1, q2, by omega, by rw [Int.natAbs_neg]; exact q4⟩⟩
      simp [eqD_int, decide_eq_false c0, decide_eq_true c1, negG]
    by_cases c2 : pk = 2
    · obtain ⟨d1, o4, e4, b4, g1⟩ := number b3
      obtain ⟨d2, o5, e5, b5, g2⟩ := number b4
      exact ⟨d1, d2, o5, by simp [eqD_int, decide_eq_false c0, decide_eq_false c1, decide_eq_true c2, e4, e5], b5, fr_mono (by decide) g1, fr_mono (by decide) g2⟩
    by_cases c3 : pk = 3
    · exact ⟨a1, _, o3, by simp [eqD_int, decide_eq_false c0, decide_eq_false c1, decide_eq_false c2, decide_eq_true c3, two_le_line], b3, f1, fr01⟩
    · exact ⟨a1, a2, o3, by simp [eqD_int, decide_eq_false c0, decide_eq_false c1, decide_eq_false c2, decide_eq_false c3], b3, f1, f2⟩
  obtain ⟨a', b', o4, e4, b4, fa, fb⟩ := s3
  obtain ⟨P, Q, ea, q1, q2, q3, q4⟩ := fa
  obtain ⟨R, S, eb, r1, r2, r3, r4⟩ := fb
  have d1 := fun st => deeds (a0 := P) (a1 := Q) (b0 := R) (b1 := S) (by omega) (by omega) (by omega) (by omega) q1 r1 st
  have d2 := fun st => deeds (a0 := R) (a1 := S) (b0 := P) (b1 := Q) (by omega) (by omega) (by omega) (by omega) r1 q1 st
  rw [← ea, ← eb] at d1 d2
  obtain ⟨m1, o5, e5, b5, g5⟩ := lawbig b4
  obtain ⟨m2, o6, e6, b6, g6⟩ := lawbig b5
  obtain ⟨o7, e7, b7⟩ := ratio_so b6 g5 g6
  obtain ⟨o8, e8, b8⟩ := ratio_so b7 (p := Q) (q := R) q2 r3
  obtain ⟨o9, e9, b9⟩ := power_so b8 (a0 := P) (a1 := Q) (by omega) (by omega) q1 q4
  obtain ⟨nd, oA, eA, bA, fA⟩ := number b9
  obtain ⟨n0, n1, en, nq1, nq2, nq3, nq4⟩ := fA
  obtain ⟨oB, eB, bB⟩ := power_so bA (a0 := n0) (a1 := n1) (by omega) (by omega) nq1 nq4
  obtain ⟨u', v', oC, eC', bC⟩ := turns (a := a') (b := b') ⟨P, Q, ea, q1, q2, q3, q4⟩ ⟨R, S, eb, r1, r2, r3, r4⟩ (intsL 0 4) x y (some (.int pk)) u v oB bB
  refine ⟨some (.int pk), u', some a', some b', v', oC, ?_, bC⟩
  refine (seq_nx (σ1 := [x, some (.ref 0), y, z, u, some a1, some a2, v]) (st1 := [o2]) (by simp [e1, e2])).trans ?_
  refine (seq_nx (σ1 := [x, some (.ref 0), y, some (.int pk), u, some a1, some a2, v]) (st1 := [o3]) (by simp [e3])).trans ?_
  refine (seq_nx e4).trans ?_
  have i1 : ∀ st, ixD a' (.int 1) st = .ok (.int Q) st := fun st => by rw [ea]; rfl
  have i0 : ∀ st, ixD b' (.int 0) st = .ok (.int R) st := fun st => by rw [eb]; rfl
  rw [← ea] at e9
  rw [← en] at eB
  refine (seq_nx (σ1 := [x, some (.ref 0), y, some (.int pk), u, some a', some b', v]) (st1 := [o4]) (by simp [d1, d2])).trans ?_
  refine (seq_nx (σ1 := [x, some (.ref 0), y, some (.int pk), u, some a', some b', v]) (st1 := [o8]) (by simp [e5, e6, e7, i1, i0, e8])).trans ?_
  refine (seq_nx (σ1 := [x, some (.ref 0), y, some (.int pk), u, some a', some b', v]) (st1 := [oB]) (by simp [e9, eA, eB])).trans ?_
  have b4' : big 4 = true := by decide
  generalize turnB = tb at eC'
  simp [b4', eC']
theorem laps : ∀ (l : List D) (x y z u a b v : Option D) (o : Option O), BInv o → ∃ (y' z' u' a' b' v' : Option D) (o' : Option O), Sim.forM (inTurn (gN 2) lapB) l [x, some (.ref 0), y, z, u, a, b, v] [o] = .nx [x, some (.ref 0), y', z', u', a', b', v'] [o'] ∧ BInv o'
  | [], x, y, z, u, a, b, v, o, h => ⟨y, z, u, a, b, v, o, rfl, h⟩
  | d :: l, x, y, z, u, a, b, v, o, h => by
    obtain ⟨z1, u1, a1, b1, v1, o1, e1, h1⟩ := lap h x (some d) z u a b v
    obtain ⟨y', z', u', a', b', v', o', e2, h2⟩ := laps l x (some d) z1 u1 a1 b1 v1 o1 h1
    refine ⟨y', z', u', a', b', v', o', ?_, h2⟩
    rw [← e2]
    conv => lhs; unfold Sim.forM
    have hi : inTurn (gN 2) lapB d [x, some (.ref 0), y, z, u, a, b, v] [o] = lapB [x, some (.ref 0), some d, z, u, a, b, v] [o] := rfl
    rw [hi, e1]
theorem law_true (ns : List Int) (hn : ns.length ≤ 63) (x : D) (hx : x = .scr (ns.map D.int) ∨ x = .lst (ns.map D.int)) : ∃ st, f_law [x] [] = .ok (.bl true) st := by
  obtain ⟨o, e, h⟩ := bag ns hn x hx
  obtain ⟨y', z', u', a', b', v', o', e2, h2⟩ := laps (intsL 0 3) (some x) none none none none none none o h
  have fin : ∃ st, finR 0 (.bl true) [o'] = .ok (.bl true) st := by
    unfold finR
    rw [if_neg (by simp)]
    split
    · exact ⟨_, rfl⟩
    · exact ⟨_, rfl⟩
  obtain ⟨st, ef⟩ := fin
  refine ⟨st, ?_⟩
  have b3' : big 3 = true := by decide
  have z : f_law [x] [] = (match m_law [some x, none, none, none, none, none, none, none] [] with
    | .nx _ st' => finR 0 .non st'
    | .rt d st' => finR 0 d st'
    | .exc x _ st' => finX 0 x st'
    | _ => .bad) := rfl
  rw [z]
  have m : m_law [some x, none, none, none, none, none, none, none] [] = .rt (.bl true) [o'] := by
    show (sSeq (sSet 1 (eCall f__law_bag (aCons (eVar 0) aNil) [])) (sSeq (sFor (iRange1 (aCons (eC (.int 3)) aNil)) (gN 2) lapB) (sRet (eC (.bl true))))) _ _ = _
    generalize lapB = lb at e2
    simp [e, b3', e2]
  rw [m]
  exact ef
end K01

set_option linter.all false
set_option maxRecDepth 100000
set_option maxHeartbeats 4000000
namespace K01
open PySem PySem.Spec PyProof.Rows L2 Sim
theorem reps_ints {K : Frag} {w : Wd} : ∀ ns : List Int, Reps K w (ns.map V.int) (ns.map D.int)
  | [] => .nil
  | n :: ns => .cons (.int n) (reps_ints ns)
def csT (K : Frag) : List (Addr × Addr) := tf.map (He.cT K)
theorem mem_cs {K : Frag} {p : Addr × Addr} (h : p ∈ csT K) : ∃ q ∈ tf, He.cT K q = p := List.mem_map.mp h
theorem cs_mem {K : Frag} {x : Str} (h : x ∈ tabN) : He.cT K (x, none) ∈ csT K := by
  refine List.mem_map_of_mem (f := He.cT K) ?_
  have : ∀ x ∈ tabN, (x, none) ∈ tf := by decide +kernel
  exact this x h
theorem tabs0 {K : Frag} {H : Hp} (h : ∀ p ∈ csT K, H p.2 = some (.tbl #[])) : LamX.Tabs (tabT K) H := fun p hp => by
  obtain ⟨x, hx, rfl⟩ := List.mem_map.mp hp
  exact LamX.TabS.nil (h _ (cs_mem hx))
theorem script_rep {K : Frag} {H : Hp} {a : Addr} {ns : List Int} (t : LamX.Tabs (tabT K) H) (hS : SqL K H a (ns.map V.int)) : ∃ (w : Wd) (x : D), w.H = H ∧ w.st = [] ∧ Ok K w ∧ Rep K w (.ref a) x ∧ (x = .scr (ns.map D.int) ∨ x = .lst (ns.map D.int)) := by
  have ok : Ok K ⟨[], [], H, []⟩ := ⟨rfl, List.nodup_nil, fun _ h => (nomatch h), fun _ h => (nomatch h), fun n a o h => by simp at h, t⟩
  have nl : ∀ b, ¬ Live ⟨[], [], H, []⟩ b := fun b ⟨n, o, h, _⟩ => by simp at h
  rcases hS with h | h
  · rcases h with h | ⟨o, h⟩
    · exact ⟨_, _, rfl, rfl, ok, .lst h (nl a) (by simp) (reps_ints ns), .inr rfl⟩
    · exact ⟨_, _, rfl, rfl, ok, .scr h (nl a) (by simp) (reps_ints ns), .inl rfl⟩
  · obtain ⟨o, its, n, h1, h2, h3⟩ := h
    exact ⟨_, _, rfl, rfl, ok, .kscr (fun H' => .inr ⟨o, its, n, h1, h2, h3⟩) ⟨o, h1, h2⟩ (reps_ints ns), .inl rfl⟩
theorem promise {K : Frag} {H : Hp} {a : Addr} {ns : List Int} (hn : ns.length ≤ 63) (t : ∀ p ∈ csT K, H p.2 = some (.tbl #[])) (hS : SqL K H a (ns.map V.int)) : spM K 1 f_law [.ref a] H (fun v _ => v = .bl true) (fun _ _ _ => False) := by
  obtain ⟨w, x, rfl, h2, ok, r, hx⟩ := script_rep (tabs0 t) hS
  obtain ⟨st, e⟩ := law_true ns hn x hx
  refine ⟨w, [x], rfl, ok, .cons r .nil, rfl, ?_⟩
  rw [h2, e]
  intro b mu H s o r
  cases r
  rfl
theorem facts {P : Program} {w : World} {K : Frag} {h : Heap} {mg : Str → Option Value} {f : Addr} (X : K.In h) (G : h.Ns mainGlobals mg) (hfa : mg ("law" : Str) = some (.ref f)) (c : SaysS fa fn xs tf h K) :
    ∃ fd : FuncData, (∀ (s : Shared) (v : Value), BindsTo s fd ⟨[v], []⟩ [("_law_script", v)]) ∧ ∀ base : Heap, K.In base → base.Ns mainGlobals mg → (∀ p ∈ csT K, LamX.TabB base mg p.1 p.2) → FnOk P w K mg base (CXp P w) 9 f fd ["_law_script"] (spM K 1 f_law) := by
  obtain ⟨fd, F⟩ := c.d.def_ D_law rfl
  have e : mg ("law" : Str) = some (.ref (He.ga K "law")) := by
    have a := (He.ba (show ((fa.all fun f => f.ok K) && fn.all fun d => d.ok K) = true from congrArg (fun z : He.AlD => z.1) c.d)).1
    exact He.glo_ok X G (List.all_eq_true.mp a _ (List.mem_append_left _ (List.mem_map_of_mem (show ("law" : Str) ∈ gnames by decide +kernel))))
  have e := hfa.symm.trans e
  cases e
  have b := FunD.bindsA (ps := ["_law_script"]) F fun _ _ _ _ _ _ us hl => match us, hl with | [_], _ => rfl
  exact ⟨fd, fun s v => b s [v] rfl, fun base _ _ t => fk_law (ev_of X G c fun x hx => t _ (cs_mem hx)) F⟩
end K01
open PySem PySem.W PySem.Calls PyProof.Rows
theorem PySem.Challenge.cw_creepclocks_k01_fractions_reckoned_holds : PySem.Challenge.rw_creepclocks_k01_fractions_reckoned.Holds := by
  w_on; o_law
  refine HandSHeadRun.head_imp (r := OpenLaw.row PySem.Challenge.rw_creepclocks_k01_fractions_reckoned) (q := K01.qv) (H := K01.hk) (ob := K01.ob) (M := 10000) (loose := K01.hnames) (d := HandSHeadRun.topDef (OpenLaw.row PySem.Challenge.rw_creepclocks_k01_fractions_reckoned).prog 78) (kwd := []) K01.ob_eq
    K01.run (by kernel_rfl) (by kernel_rfl) (by kernel_rfl) (by rfl) (by first | assumption | decide +kernel) (by decide +kernel) ⟨rfl, rfl, rfl, rfl, rfl, by decide +kernel⟩ ?hw ?hc
  case hw => w_witness2
  case hc =>
    refine LamX.walk_ofTsE (l := PySem.Challenge.rw_creepclocks_k01_fractions_reckoned) (n := 63) (k := 9) (x := "_law_script") (CX := fun w => L2.CX PySem.Challenge.rw_creepclocks_k01_fractions_reckoned.prog w) rfl (by decide) (by kernel_rfl) ⟨rfl, by decide, by decide⟩ ?F ?X
    · intro w mg fa h Y G hmg0
      obtain ⟨K, KX, c⟩ := Y
      have hmg : mg ("law" : PySem.Str) = some (.ref fa) := by
        have e : (HandSHeadRun.topDef (OpenLaw.row PySem.Challenge.rw_creepclocks_k01_fractions_reckoned).prog 78).name = ("law" : PySem.Str) := by kernel_rfl
        rw [← e]
        exact hmg0
      obtain ⟨fd, hb, hF⟩ := K01.facts (P := (PySem.Challenge.rw_creepclocks_k01_fractions_reckoned).prog) (w := w) KX G hmg c
      refine ⟨K, KX, fd, K01.csT K, Sim.spM K 1 K01.f_law, fun p hp => ?_, fun p hp => ?_, fun p hp => ?_, hb, fun H a ns hl _ ht hS => K01.promise hl ht hS, fun base hK hG ht => hF base hK hG ht⟩
      · obtain ⟨q, hq, rfl⟩ := K01.mem_cs hp
        exact c.empty q hq
      · obtain ⟨q, hq, rfl⟩ := K01.mem_cs hp
        exact c.out q hq
      · obtain ⟨q, hq, rfl⟩ := K01.mem_cs hp
        exact PySem.W.codeHd_of_K KX (c.hd q hq)
    · intro w H s e s' h
      obtain ⟨_, _, _, _, _, _, _, _, _, _, _, _, f⟩ := h
      exact f
