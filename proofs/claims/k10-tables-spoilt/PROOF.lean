import PyProof.Rows.All
import HandS.HeadHook2
import HandS.HeadNt
import HandS.HeadHook4
import HandS.Lambda
import KE.KExcInit
import HandS.Exc
import HandS.Defaults
import HandS.Gcd
import PySem.Challenge.RW_creepclocks_k10_tables_spoilt
import KE.KStateDown
import HandS.Head0
import HandS.Head1
import HandS.Head2
import HandS.Head3
import HandS.HeadEnd
import HandS.HeadWalk
import Wide.All
import OpenK.AllK
import Wide.FinOn
import HandS.ForMost
import HandS.ExcOwn
import HandS.WordsExc
import HandS.CallSlots
import HandS.IsInst
import HandS.Wide
import HandS.Walk
import HandS.TupAny
import HandS.Zip
import HandS.Rev
import HandS.Comp
import HandS.More
import HandS.FStr
import HandS.StrMore
import HandS.WideBits
import HandS.TupMul
import KE.KExcIs
import HandS.ExcInit
import HandS.MakeKwOnly
import HandS.Text
import HandS.HotCalls
import HandS.TryMany
import OpenK.KMeth
import OpenK.KOps
import KE.KOpsOwn
import KE.GoesMore
import PyProof.EnumMake
import HandS.Zip0
import HandS.OwnEq
import HandS.DeepEq
import PyProof.NeKinds
namespace Sim
/-- the defs that make lambdas -/
def tabN : List PySem.Str := ["_law_so"]
end Sim

set_option Elab.async false
set_option linter.all false
set_option maxRecDepth 100000
set_option maxHeartbeats 4000000
namespace Sim
open PySem PySem.Spec PyProof.Rows L2
abbrev Frag := PySem.W.Frag
inductive Bs where
  | ve | ae | le | ie
deriving DecidableEq
def Bs.bm : Bs → List Value
  | .ve => [.type "ValueError", .type "Exception", .type "BaseException", .type "object"]
  | .ae => [.type "ArithmeticError", .type "Exception", .type "BaseException", .type "object"]
  | .le => [.type "LookupError", .type "Exception", .type "BaseException", .type "object"]
  | .ie => [.type "IndexError", .type "LookupError", .type "Exception", .type "BaseException", .type "object"]
def Bs.new : Bs → String
  | .ve => "ValueError.__new__"
  | .ae => "ArithmeticError.__new__"
  | .le => "LookupError.__new__"
  | .ie => "IndexError.__new__"
/-- an exception class at a, over the base b: its fields' names ns -/
def exB (K : Frag) (a : Addr) (b : Bs) (ns : List Str) : Bool :=
  PySem.W.excInitIn K a b.bm b.new && (PySem.W.excOver K a b.bm && (PySem.W.hasDictIn K a && (PySem.W.keepIn K (.ref a) && ((PySem.W.clsIn K a).isSome &&
  (decide (PySem.W.findIn K (.ref a) "__setattr__" = some (some (.builtin "object.__setattr__"))) &&
  (decide (PySem.W.findIn K (.ref a) "__getattribute__" = some (some (.builtin "BaseException.__getattribute__"))) &&
  (decide (PySem.W.findIn K (.ref a) "__getattr__" = some none) &&
  (decide (PySem.W.subIn K (.ref a) (.type "BaseException") = some true) &&
  (decide (PySem.W.findIn K (.ref a) "__class__" = some (some (.builtin "object.__class__"))) &&
  (decide (PySem.W.mroIn K a (.type "object") = some true) &&
  (decide (PySem.W.findIn K (.ref a) "__init__" = some (some (.ref (He.ma K a "__init__")))) &&
  (decide (PySem.W.typeIn K (.ref (He.ma K a "__init__")) = some (.type "function")) &&
  (decide (PySem.W.typeIn K (.ref a) = some (.type "type")) &&
  (ns.all fun f => decide (PySem.W.findIn K (.ref a) f = some none)))))))))))))))
/-- isinstance of these classes' instances: own classes, built-in ones -/
def incr : List Nat → Bool
  | a :: b :: r => decide (a < b) && incr (b :: r)
  | _ => true
def isTabB (K : Frag) (ancO : Str → List Str) (ancT : Str → List String) (leafs owns : List Str) : Bool :=
  (leafs.all fun C => decide ((PySem.W.clsIn K (He.ga K C)).map (·.mro) = some ((ancO C).map (fun A => Value.ref (He.ga K A)) ++ (ancT C).map Value.type))) &&
  ((owns.all fun T => (PySem.W.clsIn K (He.ga K T)).isSome && decide (PySem.W.typeIn K (.ref (He.ga K T)) = some (.type "type"))) && incr (owns.map (He.ga K)))
/-- a class of plain instances at a: its fields ns -/
def insB (K : Frag) (a : Addr) (ns : List Str) : Bool :=
  PySem.W.plainGet K a Str.empty && (PySem.W.hasDictIn K a && (PySem.W.plainOver K a && (decide (PySem.W.findIn K (.ref a) "__setattr__" = some (some (.builtin "object.__setattr__"))) &&
  (decide (PySem.W.findIn K (.ref a) "__class__" = some (some (.builtin "object.__class__"))) && (decide (PySem.W.mroIn K a (.type "object") = some true) &&
  (PySem.W.makesIn K a && (decide (PySem.W.findIn K (.ref a) "__init__" = some (some (.ref (He.ma K a "__init__")))) && (PySem.W.isFn K (.ref (He.ma K a "__init__")) && (PySem.W.keepIn K (.ref a) &&
  (decide (PySem.W.findIn K (.ref a) "__getattribute__" = some (some (.builtin "object.__getattribute__"))) &&
  (ns.all fun f => decide (PySem.W.findIn K (.ref a) f = some none))))))))))))
/-- a static method m of the class at a -/
def stmB (K : Frag) (a : Addr) (m : Str) : Bool :=
  He5.wrapB K a "staticmethod" "staticmethod.__get__" m && (PySem.W.readsIn K a (.type "type") && decide (PySem.W.specialIn K (.ref a) "__getattribute__" = some (some (.builtin "type.__getattribute__"))))
def tyL : List String := ["bool", "int", "str", "tuple", "list"]
/-- these classes are no built-in types -/
def notB (K : Frag) (cs : List Str) : Bool := cs.all fun C => tyL.all fun T => decide (PySem.W.kitOne K (.ref (He.ga K C)) (.type T) = some false)
def dvI : List Int → List He.Dv := List.map He.Dv.int
def gblB (K : Frag) (x : Str) (id : String) : Bool := decide (PySem.W.nsIn K mainGlobals x = some (some (.builtin id)))
/-! ### the objects that are looked at -/
def fnR (o : Obj) : List Addr := match o.data with
  | .func fd => refVs fd.code ++ (refVs fd.defaults ++ refVs fd.kwdefaults)
  | _ => []
where refVs : Value → List Addr
  | .ref a => [a]
  | _ => []
def fnR2 (g : Addr → Option Obj) (a : Addr) : List Addr := match g a with
  | some o => (match o.data with
    | .func _ => fnR o
    | .fields vs => vs.toList.flatMap fun v => (match v with
      | .ref b => b :: (match g b with
        | some bo => fnR bo
        | none => [])
      | _ => [])
    | _ => [])
  | none => []
def r1 (g : Addr → Option Obj) (a : Addr) : List Addr := match g a with
  | some o => (match o.data with
    | .cls cd => cd.ns :: (match g cd.ns with
      | some n => (match n.data with
        | .dict es _ => es.toList.flatMap fun e => (match e.val with
          | .ref f => f :: fnR2 g f
          | _ => [])
        | _ => [])
      | none => [])
    | _ => fnR o)
  | none => []
def asL (g : Addr → Option Obj) : List Addr := match g mainGlobals with
  | some o => (match o.data with
    | .dict es _ => mainGlobals :: PySem.cStatics :: es.toList.flatMap fun e => (match e.val with
      | .ref a => a :: r1 g a
      | _ => [])
    | _ => [])
  | none => []
/-! ### the Hook: defs, facts, Bools of our own, the tables of the defs that make lambdas -/
abbrev AlS : Type := He.AlD × Bool
def obsS (fa : List He.Fa) (fn : List He5.DefA) (xs : List (Frag → Bool)) (K : Frag) : AlS := (He5.obsA fa fn K, xs.all fun f => f K)
structure SaysS (fa : List He.Fa) (fn : List He5.DefA) (xs : List (Frag → Bool)) (tf : List He.Defn) (h : Heap) (K : Frag) : Prop where
  o : obsS fa fn xs K = (He5.valA fn, true)
  hd : ∀ p ∈ tf, PySem.W.codeHdIn K (He.cT K p).1 (He.cT K p).2 = true
  out : ∀ p ∈ tf, K.lookup (He.cT K p).2 = none
  empty : ∀ p ∈ tf, h.get? (He.cT K p).2 = some { cls := .none, data := .fields #[] }
def obsSG (fa : List He.Fa) (fn : List He5.DefA) (xs : List (Frag → Bool)) (tf : List He.Defn) (g : Addr → Option Obj) : AlS := (He5.obsA fa fn (He.frT g (asL g)), (xs.all fun f => f (He.frT g (asL g))) && He.tabsB g tf (He.frT g (asL g)))
theorem saysS_of {fa : List He.Fa} {fn : List He5.DefA} {xs : List (Frag → Bool)} {tf : List He.Defn} {h : Heap} (e : obsSG fa fn xs tf h.get? = (He5.valA fn, true)) : SaysS fa fn xs tf h (He.frT h.get? (asL h.get?)) := by
  have e1 : He5.obsA fa fn (He.frT h.get? (asL h.get?)) = He5.valA fn := congrArg (fun z : AlS => z.1) e
  have e2 : ((xs.all fun f => f (He.frT h.get? (asL h.get?))) && He.tabsB h.get? tf (He.frT h.get? (asL h.get?))) = true := congrArg (fun z : AlS => z.2) e
  obtain ⟨h1, h2⟩ := He.ba e2
  have key : ∀ p ∈ tf, PySem.W.codeHdIn (He.frT h.get? (asL h.get?)) (He.cT (He.frT h.get? (asL h.get?)) p).1 (He.cT (He.frT h.get? (asL h.get?)) p).2 = true ∧ ∃ o, h.get? (He.cT (He.frT h.get? (asL h.get?)) p).2 = some o ∧ He.emptyTab o = true := fun p hp => by
    obtain ⟨h3, h4⟩ := He.ba (List.all_eq_true.mp h2 p hp)
    refine ⟨h3, ?_⟩
    cases q : h.get? (He.cT (He.frT h.get? (asL h.get?)) p).2 with
    | none =>
      rw [q] at h4
      cases h4
    | some o =>
      rw [q] at h4
      exact ⟨o, rfl, h4⟩
  refine ⟨?_, fun p hp => (key p hp).1, fun p hp => ?_, fun p hp => ?_⟩
  · show (He5.obsA fa fn _, _) = _
    rw [e1, h1]
  · obtain ⟨_, o, q, z⟩ := key p hp
    exact He.frT_none q z
  · obtain ⟨_, o, q, z⟩ := key p hp
    rw [q, He.emptyTab_eq z]
def hookS (fa : List He.Fa) (fn : List He5.DefA) (xs : List (Frag → Bool)) (tf : List He.Defn) : PySem.W.Hook where
  α := AlS
  obs := fun s => obsSG fa fn xs tf s.heap.get?
  val := fun _ => (He5.valA fn, true)
  says := fun _ h => ∃ K : PySem.W.Frag, K.In h ∧ SaysS fa fn xs tf h K
  of := fun _ _ e => ⟨_, He.frT_in, saysS_of e⟩
  keeps := fun _ _ _ ⟨K, hK, c⟩ k => ⟨K, PySem.W.Frag.In.keeps hK k, ⟨c.o, c.hd, c.out, fun p hp => k _ _ (c.empty p hp)⟩⟩
theorem obsSG_eq {fa : List He.Fa} {fn : List He5.DefA} {xs : List (Frag → Bool)} {tf : List He.Defn} {g : Addr → Option Obj} {s : Shared} (h : ∀ a, g a = s.heap.get? a) : obsSG fa fn xs tf g = (hookS fa fn xs tf).obs s := by
  have e : g = s.heap.get? := funext h
  rw [e] <;> rfl
/-- the tables of the defs tabN, each with the name that its lambdas bear -/
def tabT (K : Frag) : List (Addr × Str) := tabN.map fun x => ((He.cT K (x, none)).2, ((x : Str) ++ (".<locals>." : Str)) ++ ("<lambda>" : Str))
/-- the tables of the defs that make lambdas differ -/
def tabInj (K : Frag) : Bool := tabN.all fun x => tabN.all fun y => decide (x = y) || !decide ((He.cT K (x, none)).2 = (He.cT K (y, none)).2)
def subB (K : Frag) (owns : List Str) : Bool := owns.all fun T => decide (PySem.W.subIn K (.ref (He.ga K T)) (.type "BaseException") = some true)
end Sim

set_option Elab.async false
set_option linter.all false
set_option maxRecDepth 100000
set_option maxHeartbeats 4000000
namespace Sim
open PySem PySem.Spec PyProof.Rows L2
def tyN : List String := ["NoneType", "bool", "int", "str", "tuple", "list"]
/-- a method m of the class at C -/
def methB (K : Frag) (C : Addr) (m : Str) : Bool := decide (PySem.W.findIn K (.ref C) m = some (some (.ref (He.ma K C m)))) && (PySem.W.isFn K (.ref (He.ma K C m)) && PySem.W.keepIn K (.ref (He.ma K C m)))
def nfB (K : Frag) (C : Addr) (cs : List Str) : Bool := (tyN.all fun n => PySem.W.notFirst K C (.type n)) && cs.all fun C' => PySem.W.notFirst K C (.ref (He.ga K C'))
/-- classes of plain instances with operators -/
def ownB (K : Frag) (cs : List Str) : Bool := cs.all fun C => PySem.W.selfFirst K (He.ga K C) && nfB K (He.ga K C) cs
/-- isinstance of such a class -/
def clsB (K : Frag) (cs : List Str) : Bool := cs.all fun T => (tyN.all fun n => decide (PySem.W.kitOne K (.type n) (.ref (He.ga K T)) = some false)) && cs.all fun C => decide (PySem.W.kitOne K (.ref (He.ga K C)) (.ref (He.ga K T)) = some (decide (C = T)))
end Sim

set_option Elab.async false
set_option linter.all false
set_option maxRecDepth 100000
set_option maxHeartbeats 4000000

namespace K10
open PySem PySem.Spec PyProof.Rows L2 Sim
def top (i : Nat) : Stmt := PySem.Challenge.pw_creepclocks_k10_tables_spoilt.main.body.getD i (.Pass ⟨0, 0, 0, 0⟩)
def inCls (s : Stmt) (j : Nat) : Stmt := match s with
  | .ClassDef _ _ _ body _ _ _ _ _ _ _ => body.getD j (.Pass ⟨0, 0, 0, 0⟩)
  | s => s
abbrev D_is_fraction : Nat := 0
abbrev D_ratio : Nat := 1
abbrev D_is_whole : Nat := 2
abbrev D_is_order : Nat := 3
abbrev D_first_no_fraction : Nat := 4
abbrev D_check_numbers : Nat := 5
abbrev D_least_place : Nat := 6
abbrev D_add_product : Nat := 7
abbrev D_multiplied : Nat := 8
abbrev D_powers_of : Nat := 9
abbrev D__bend_of : Nat := 10
abbrev D__kind_of : Nat := 11
abbrev D_Step___init__ : Nat := 12
abbrev D_Step_numbers : Nat := 13
abbrev D_Step___eq__ : Nat := 14
abbrev D__is_line : Nat := 15
abbrev D_Table___init__ : Nat := 16
abbrev D_Table_lines : Nat := 17
abbrev D_Table_power_line : Nat := 18
abbrev D_Table_number : Nat := 19
abbrev D_Table___eq__ : Nat := 20
abbrev D_table_of : Nat := 21
abbrev D_step_of_table : Nat := 22
abbrev D__law_bag : Nat := 23
abbrev D__law_draw : Nat := 24
abbrev D__law_of : Nat := 25
abbrev D__law_like : Nat := 26
abbrev D__law_low : Nat := 27
abbrev D__law_add : Nat := 28
abbrev D__law_mul : Nat := 29
abbrev D__law_times : Nat := 30
abbrev D__law_number : Nat := 31
abbrev D__law_full : Nat := 32
abbrev D__law_spread : Nat := 33
abbrev D__law_lead : Nat := 34
abbrev D__law_step : Nat := 35
abbrev D__law_bent : Nat := 36
abbrev D__law_step_so : Nat := 37
abbrev D__law_table : Nat := 38
abbrev D__law_small_size : Nat := 39
abbrev D__law_free : Nat := 40
abbrev D__law_fault : Nat := 41
abbrev D__law_ask : Nat := 42
abbrev D__law_changed : Nat := 43
abbrev D__law_so : Nat := 44
abbrev D_law : Nat := 45
abbrev DI_InvalidFraction : Nat := 46
abbrev DI_InvalidOrder : Nat := 47
abbrev DI_InvalidTable : Nat := 48
abbrev DI_InvalidPlace : Nat := 49
abbrev DI_NotATable : Nat := 50
def fn0 : List (He5.DefA) := [⟨fun K => (He.ga K "is_fraction"), "is_fraction", "is_fraction", defArgs (top 17), defBody (top 17), defScope (top 17), [], []⟩,
  ⟨fun K => (He.ga K "ratio"), "ratio", "ratio", defArgs (top 18), defBody (top 18), defScope (top 18), [], []⟩,
  ⟨fun K => (He.ga K "is_whole"), "is_whole", "is_whole", defArgs (top 27), defBody (top 27), defScope (top 27), [], []⟩,
  ⟨fun K => (He.ga K "is_order"), "is_order", "is_order", defArgs (top 28), defBody (top 28), defScope (top 28), [], []⟩,
  ⟨fun K => (He.ga K "first_no_fraction"), "first_no_fraction", "first_no_fraction", defArgs (top 29), defBody (top 29), defScope (top 29), [], []⟩,
  ⟨fun K => (He.ga K "check_numbers"), "check_numbers", "check_numbers", defArgs (top 30), defBody (top 30), defScope (top 30), [], []⟩,
  ⟨fun K => (He.ga K "least_place"), "least_place", "least_place", defArgs (top 33), defBody (top 33), defScope (top 33), [], []⟩,
  ⟨fun K => (He.ga K "add_product"), "add_product", "add_product", defArgs (top 35), defBody (top 35), defScope (top 35), [], []⟩,
  ⟨fun K => (He.ga K "multiplied"), "multiplied", "multiplied", defArgs (top 39), defBody (top 39), defScope (top 39), [], []⟩,
  ⟨fun K => (He.ga K "powers_of"), "powers_of", "powers_of", defArgs (top 41), defBody (top 41), defScope (top 41), [], []⟩,
  ⟨fun K => (He.ga K "_bend_of"), "_bend_of", "_bend_of", defArgs (top 52), defBody (top 52), defScope (top 52), [], []⟩,
  ⟨fun K => (He.ga K "_kind_of"), "_kind_of", "_kind_of", defArgs (top 53), defBody (top 53), defScope (top 53), [], []⟩]
def fn1 : List (He5.DefA) := [⟨fun K => (He.ma K (He.ga K "Step") "__init__"), "__init__", "Step.__init__", defArgs (inCls (top 51) 0), defBody (inCls (top 51) 0), defScope (inCls (top 51) 0), [], []⟩,
  ⟨fun K => (He.ma K (He.ga K "Step") "numbers"), "numbers", "Step.numbers", defArgs (inCls (top 51) 3), defBody (inCls (top 51) 3), defScope (inCls (top 51) 3), [], []⟩,
  ⟨fun K => (He.ma K (He.ga K "Step") "__eq__"), "__eq__", "Step.__eq__", defArgs (inCls (top 51) 15), defBody (inCls (top 51) 15), defScope (inCls (top 51) 15), [], []⟩,
  ⟨fun K => (He.ga K "_is_line"), "_is_line", "_is_line", defArgs (top 56), defBody (top 56), defScope (top 56), [], []⟩,
  ⟨fun K => (He.ma K (He.ga K "Table") "__init__"), "__init__", "Table.__init__", defArgs (inCls (top 55) 0), defBody (inCls (top 55) 0), defScope (inCls (top 55) 0), [], []⟩,
  ⟨fun K => (He.ma K (He.ga K "Table") "lines"), "lines", "Table.lines", defArgs (inCls (top 55) 1), defBody (inCls (top 55) 1), defScope (inCls (top 55) 1), [], []⟩,
  ⟨fun K => (He.ma K (He.ga K "Table") "power_line"), "power_line", "Table.power_line", defArgs (inCls (top 55) 2), defBody (inCls (top 55) 2), defScope (inCls (top 55) 2), [], []⟩,
  ⟨fun K => (He.ma K (He.ga K "Table") "number"), "number", "Table.number", defArgs (inCls (top 55) 3), defBody (inCls (top 55) 3), defScope (inCls (top 55) 3), [], []⟩,
  ⟨fun K => (He.ma K (He.ga K "Table") "__eq__"), "__eq__", "Table.__eq__", defArgs (inCls (top 55) 5), defBody (inCls (top 55) 5), defScope (inCls (top 55) 5), [], []⟩,
  ⟨fun K => (He.ga K "table_of"), "table_of", "table_of", defArgs (top 57), defBody (top 57), defScope (top 57), [], []⟩,
  ⟨fun K => (He.ga K "step_of_table"), "step_of_table", "step_of_table", defArgs (top 58), defBody (top 58), defScope (top 58), [], []⟩,
  ⟨fun K => (He.ga K "_law_bag"), "_law_bag", "_law_bag", defArgs (top 60), defBody (top 60), defScope (top 60), [], []⟩]
def fn2 : List (He5.DefA) := [⟨fun K => (He.ga K "_law_draw"), "_law_draw", "_law_draw", defArgs (top 61), defBody (top 61), defScope (top 61), [], []⟩,
  ⟨fun K => (He.ga K "_law_of"), "_law_of", "_law_of", defArgs (top 62), defBody (top 62), defScope (top 62), [], []⟩,
  ⟨fun K => (He.ga K "_law_like"), "_law_like", "_law_like", defArgs (top 63), defBody (top 63), defScope (top 63), [], []⟩,
  ⟨fun K => (He.ga K "_law_low"), "_law_low", "_law_low", defArgs (top 64), defBody (top 64), defScope (top 64), [], []⟩,
  ⟨fun K => (He.ga K "_law_add"), "_law_add", "_law_add", defArgs (top 65), defBody (top 65), defScope (top 65), [], []⟩,
  ⟨fun K => (He.ga K "_law_mul"), "_law_mul", "_law_mul", defArgs (top 66), defBody (top 66), defScope (top 66), [], []⟩,
  ⟨fun K => (He.ga K "_law_times"), "_law_times", "_law_times", defArgs (top 67), defBody (top 67), defScope (top 67), [], []⟩,
  ⟨fun K => (He.ga K "_law_number"), "_law_number", "_law_number", defArgs (top 68), defBody (top 68), defScope (top 68), [], []⟩,
  ⟨fun K => (He.ga K "_law_full"), "_law_full", "_law_full", defArgs (top 69), defBody (top 69), defScope (top 69), [], []⟩,
  ⟨fun K => (He.ga K "_law_spread"), "_law_spread", "_law_spread", defArgs (top 70), defBody (top 70), defScope (top 70), [], []⟩,
  ⟨fun K => (He.ga K "_law_lead"), "_law_lead", "_law_lead", defArgs (top 71), defBody (top 71), defScope (top 71), [], []⟩,
  ⟨fun K => (He.ga K "_law_step"), "_law_step", "_law_step", defArgs (top 72), defBody (top 72), defScope (top 72), [], []⟩]
def fn3 : List (He5.DefA) := [⟨fun K => (He.ga K "_law_bent"), "_law_bent", "_law_bent", defArgs (top 73), defBody (top 73), defScope (top 73), [], []⟩,
  ⟨fun K => (He.ga K "_law_step_so"), "_law_step_so", "_law_step_so", defArgs (top 74), defBody (top 74), defScope (top 74), [], []⟩,
  ⟨fun K => (He.ga K "_law_table"), "_law_table", "_law_table", defArgs (top 75), defBody (top 75), defScope (top 75), [], []⟩,
  ⟨fun K => (He.ga K "_law_small_size"), "_law_small_size", "_law_small_size", defArgs (top 76), defBody (top 76), defScope (top 76), [], []⟩,
  ⟨fun K => (He.ga K "_law_free"), "_law_free", "_law_free", defArgs (top 77), defBody (top 77), defScope (top 77), [], []⟩,
  ⟨fun K => (He.ga K "_law_fault"), "_law_fault", "_law_fault", defArgs (top 78), defBody (top 78), defScope (top 78), [], []⟩,
  ⟨fun K => (He.ga K "_law_ask"), "_law_ask", "_law_ask", defArgs (top 79), defBody (top 79), defScope (top 79), [], []⟩,
  ⟨fun K => (He.ga K "_law_changed"), "_law_changed", "_law_changed", defArgs (top 80), defBody (top 80), defScope (top 80), [], []⟩,
  ⟨fun K => (He.ga K "_law_so"), "_law_so", "_law_so", defArgs (top 81), defBody (top 81), defScope (top 81), [], []⟩,
  ⟨fun K => (He.ga K "law"), "law", "law", defArgs (top 82), defBody (top 82), defScope (top 82), [], []⟩,
  ⟨fun K => (He.ma K (He.ga K "InvalidFraction") "__init__"), "__init__", "InvalidFraction.__init__", defArgs (inCls (top 5) 0), defBody (inCls (top 5) 0), defScope (inCls (top 5) 0), [], []⟩,
  ⟨fun K => (He.ma K (He.ga K "InvalidOrder") "__init__"), "__init__", "InvalidOrder.__init__", defArgs (inCls (top 6) 0), defBody (inCls (top 6) 0), defScope (inCls (top 6) 0), [], []⟩]
def fn4 : List (He5.DefA) := [⟨fun K => (He.ma K (He.ga K "InvalidTable") "__init__"), "__init__", "InvalidTable.__init__", defArgs (inCls (top 11) 0), defBody (inCls (top 11) 0), defScope (inCls (top 11) 0), [], []⟩,
  ⟨fun K => (He.ma K (He.ga K "InvalidPlace") "__init__"), "__init__", "InvalidPlace.__init__", defArgs (inCls (top 9) 0), defBody (inCls (top 9) 0), defScope (inCls (top 9) 0), [], []⟩,
  ⟨fun K => (He.ma K (He.ga K "NotATable") "__init__"), "__init__", "NotATable.__init__", defArgs (inCls (top 14) 0), defBody (inCls (top 14) 0), defScope (inCls (top 14) 0), [], []⟩]
def fn : List (He5.DefA) := fn0 ++ fn1 ++ fn2 ++ fn3 ++ fn4
def gnames0 : List (Str) := ["is_fraction",
  "ratio",
  "is_whole",
  "is_order",
  "first_no_fraction",
  "check_numbers",
  "least_place",
  "add_product",
  "multiplied",
  "powers_of",
  "_bend_of",
  "_kind_of",
  "_is_line",
  "table_of",
  "step_of_table",
  "_law_bag",
  "_law_draw",
  "_law_of",
  "_law_like",
  "_law_low",
  "_law_add",
  "_law_mul",
  "_law_times",
  "_law_number",
  "_law_full",
  "_law_spread",
  "_law_lead",
  "_law_step",
  "_law_bent",
  "_law_step_so"]
def gnames1 : List (Str) := ["_law_table",
  "_law_small_size",
  "_law_free",
  "_law_fault",
  "_law_ask",
  "_law_changed",
  "_law_so",
  "law",
  "Step",
  "Table",
  "ONE",
  "ZERO",
  "CreepError",
  "InvalidFraction",
  "InvalidOrder",
  "InvalidPlace",
  "InvalidTable",
  "NotATable"]
def gnames : List (Str) := gnames0 ++ gnames1
def fnames0 : List (Str) := ["abs",
  "all",
  "bool",
  "enumerate",
  "int",
  "isinstance",
  "len",
  "list",
  "max",
  "min",
  "range",
  "str",
  "tuple",
  "zip"]
def fnames : List (Str) := fnames0
def fa : List He.Fa := gnames.map .glo ++ fnames.map .free
def tf : List He.Defn := tabN.map fun x => (x, none)
def clsL0 : List (Str) := ["Step",
  "Table"]
def clsL : List (Str) := clsL0
def insL0 : List (Str × List Str) := [("Step", ["_numbers", "order", "lead", "height", "kind", "flat", "strength"]),
  ("Table", ["_lines", "order"])]
def insL : List (Str × List Str) := insL0
def metL0 : List (Str × Str) := [("Step", "numbers"),
  ("Step", "__eq__"),
  ("Table", "lines"),
  ("Table", "power_line"),
  ("Table", "number"),
  ("Table", "__eq__")]
def metL : List (Str × Str) := metL0
def stmL : List (Str × Str) := []
def tupL0 : List (Str × List Int) := [("ONE", [1, 1]),
  ("ZERO", [0, 1])]
def tupL : List (Str × List Int) := tupL0
def gblL0 : List (Str × String) := [("gcd", "math.gcd")]
def gblL : List (Str × String) := gblL0
def leafs0 : List (Str) := ["InvalidFraction",
  "InvalidOrder",
  "InvalidTable",
  "InvalidPlace",
  "NotATable"]
def leafs : List (Str) := leafs0
def owns0 : List (Str) := ["CreepError",
  "InvalidFraction",
  "InvalidOrder",
  "InvalidPlace",
  "InvalidTable",
  "NotATable"]
def owns : List (Str) := owns0
def ancL0 : List (Str × List Str × List String) := [("InvalidFraction", ["InvalidFraction", "CreepError"], ["ValueError", "Exception", "BaseException", "object"]),
  ("InvalidOrder", ["InvalidOrder", "CreepError"], ["ValueError", "Exception", "BaseException", "object"]),
  ("InvalidTable", ["InvalidTable", "CreepError"], ["ValueError", "Exception", "BaseException", "object"]),
  ("InvalidPlace", ["InvalidPlace", "CreepError"], ["ValueError", "Exception", "BaseException", "object"]),
  ("NotATable", ["NotATable", "CreepError"], ["ValueError", "Exception", "BaseException", "object"])]
def ancL : List (Str × List Str × List String) := ancL0
def ancO (C : Str) : List Str := match ancL.lookup C with
  | some p => p.1
  | none => []
def ancT (C : Str) : List String := match ancL.lookup C with
  | some p => p.2
  | none => []
def exL0 : List (Str × Bs × List Str) := [("InvalidFraction", Bs.ve, ["code", "at"]),
  ("InvalidOrder", Bs.ve, ["code", "value"]),
  ("InvalidTable", Bs.ve, ["code", "at"]),
  ("InvalidPlace", Bs.ve, ["code", "value"]),
  ("NotATable", Bs.ve, ["code", "place", "line"])]
def exL : List (Str × Bs × List Str) := exL0
def xs : List (Frag → Bool) := [fun K => insL.all fun e => insB K (He.ga K e.1) e.2, fun K => stmL.all fun e => stmB K (He.ga K e.1) e.2, fun K => notB K clsL, fun K => gblL.all fun e => gblB K e.1 e.2, fun K => tupL.all fun e => He.tupB K e.1 (dvI e.2),
  fun K => isTabB K ancO ancT leafs owns, fun K => exL.all fun e => exB K (He.ga K e.1) e.2.1 e.2.2, fun K => subB K owns, tabInj, fun K => metL.all fun e => methB K (He.ga K e.1) e.2, fun K => ownB K clsL, fun K => clsB K clsL]
end K10

set_option Elab.async false
set_option linter.all false
set_option maxRecDepth 100000
set_option maxHeartbeats 4000000
namespace K10
open PySem PySem.Spec PyProof.Rows L2 Sim
abbrev R : PySem.W.OpenRow := PySem.W.OpenLaw.row PySem.Challenge.rw_creepclocks_k10_tables_spoilt
abbrev qv : Program := PySem.W.view R.prog [0, 82]
def hnames0 : List (Str) := ["_wall",
  "CreepError",
  "NoAnswer",
  "InvalidFraction",
  "InvalidOrder",
  "OrderTooLow",
  "UnlikeOrders",
  "InvalidPlace",
  "InvalidPower",
  "InvalidTable",
  "CantTurn",
  "NotSlow",
  "NotATable",
  "DividedByZero",
  "is_fraction",
  "ratio",
  "sum_of",
  "difference_of",
  "product_of",
  "quotient_of",
  "fraction_text",
  "ZERO",
  "ONE",
  "is_whole",
  "is_order",
  "first_no_fraction",
  "check_numbers",
  "check_same_order",
  "check_cut",
  "least_place"]
def hnames1 : List (Str) := ["unit_line",
  "add_product",
  "added",
  "subtracted",
  "scaled_list",
  "multiplied",
  "substituted",
  "powers_of",
  "turned_back",
  "done_times",
  "binomials",
  "through",
  "series_line",
  "slow_power",
  "term_text",
  "series_text",
  "Step",
  "_bend_of",
  "_kind_of",
  "Table",
  "_is_line",
  "table_of",
  "step_of_table",
  "_law_bag",
  "_law_draw",
  "_law_of",
  "_law_like",
  "_law_low",
  "_law_add",
  "_law_mul"]
def hnames2 : List (Str) := ["_law_times",
  "_law_number",
  "_law_full",
  "_law_spread",
  "_law_lead",
  "_law_step",
  "_law_bent",
  "_law_step_so",
  "_law_table",
  "_law_small_size",
  "_law_free",
  "_law_fault",
  "_law_ask",
  "_law_changed",
  "_law_so"]
def hnames : List (Str) := hnames0 ++ hnames1 ++ hnames2

abbrev hk : PySem.W.Hook := hookS fa fn xs tf
def ob (s : PySem.W.SharedT) : AlS := obsSG fa fn xs tf (HandSHeadRun.getT s)
theorem ob_eq (s : PySem.W.SharedT) : ob s = hk.obs s.abs := obsSG_eq (HandSHeadRun.getT_eq s)
def ob1 (s : PySem.W.SharedT) : He.AlD := He5.obsA fa fn (He.frT (HandSHeadRun.getT s) (asL (HandSHeadRun.getT s)))
def ob2 (s : PySem.W.SharedT) : Bool := (xs.all fun f => f (He.frT (HandSHeadRun.getT s) (asL (HandSHeadRun.getT s)))) && He.tabsB (HandSHeadRun.getT s) tf (He.frT (HandSHeadRun.getT s) (asL (HandSHeadRun.getT s)))
open PySem.W PySem.Calls HandSHeadRun
noncomputable abbrev T (w : World) := wholeF (fun p => stepQ (denQ tabQ) p w) fenceQ 10000 R.prog
theorem run0 (w : World) : (T w).map (fun x => (looksF R.prog x.1.heap x.2.abs, seenQ qv hnames (importedModules R.prog.main.body) (fun s => xlAt qv [] s && recOk R.toRowW.records s) x.2.abs)) = some (true, openGood qv hnames) := by
  kernel_rfl
theorem run1 (w : World) : (T w).map (fun x => ob1 x.2) = some (He5.valA fn) := by
  kernel_rfl
theorem run2 (w : World) : (T w).map (fun x => ob2 x.2) = some true := by
  kernel_rfl
end K10

set_option Elab.async false
set_option linter.all false
set_option maxRecDepth 100000
set_option maxHeartbeats 4000000
namespace K10
open PySem PySem.Spec PyProof.Rows L2 Sim
open PySem.W PySem.Calls HandSHeadRun
theorem joinI {w : World} {r : Option (Shared × SharedT)} (h0 : r.map (fun x => (looksF R.prog x.1.heap x.2.abs, seenQ qv hnames (importedModules R.prog.main.body) (fun s => xlAt qv [] s && recOk R.toRowW.records s) x.2.abs)) = some (true, openGood qv hnames))
    (h1 : r.map (fun x => ob1 x.2) = some (He5.valA fn)) (h2 : r.map (fun x => ob2 x.2) = some true) :
    r.map (fun x => (looksF R.prog x.1.heap x.2.abs, seenQ qv hnames (importedModules R.prog.main.body) (fun s => xlAt qv [] s && recOk R.toRowW.records s) x.2.abs, ob x.2)) = some (true, openGood qv hnames, hk.val w) := by
  cases r with
  | none => cases h0
  | some s =>
    simp only [Option.map_some, Option.some.injEq] at h0 h1 h2 ⊢
    have e : ob s.2 = hk.val w := by
      show (ob1 s.2, ob2 s.2) = (He5.valA fn, true)
      rw [h1, h2]
    have e2 : ∀ {a a' : Bool} {β : Type} {b b' : β} {γ : Type} {c c' : γ}, (a, b) = (a', b') → c = c' → (a, b, c) = (a', b', c') := by
      intro a a' β b b' γ c c' h h2
      cases h; cases h2; rfl
    exact congrArg some (e2 h0 e)
theorem run (w : World) : HandSHeadRun.RunEqI R qv hk ob 10000 hnames w := joinI (run0 w) (run1 w) (run2 w)
end K10

set_option Elab.async false
set_option linter.all false
set_option maxRecDepth 100000
set_option maxHeartbeats 4000000
/-! data, stores, what represents them -/
namespace Sim
open PySem PySem.Spec PyProof.Rows L2

/-- data by value; ref: an object of the store -/
inductive D where
  | non | bl (b : Bool) | int (i : Int) | str (s : Str) | ty (n : String)
  | tup (ds : List D) | lst (ds : List D) | ins (C : Str) (fs : List (Str × D))
  | ref (n : Nat)
  /-- the script -/
  | scr (ds : List D)
inductive O where
  | lst (ds : List D) | ins (C : Str) (fs : List (Str × D))
abbrev Sto := List (Option O)
structure Exn where
  cls : Str
  fs : List (Str × D)
inductive Res (α : Type) where
  | ok (a : α) (st : Sto) | exc (x : Exn) (st : Sto) | bad
@[simp] def Res.bind {α β : Type} (r : Res α) (f : α → Sto → Res β) : Res β := match r with
  | .ok a st => f a st
  | .exc x st => .exc x st
  | .bad => .bad
/-- where we stand: real addresses of the store's objects, the store, the abstract heap -/
structure Wd where
  mu : List Addr
  st : Sto
  H : Hp
  /-- lists that are just being made: nothing leads there -/
  op : List Addr
def Live (w : Wd) (a : Addr) : Prop := ∃ (n : Nat) (o : O), w.mu[n]? = some a ∧ w.st[n]? = some (some o)
/-- at a: an exception of the class at C, its dict at dx -/
def xo (a C dx : Addr) : HO := .ext fun h => ∃ (o : Obj) (vs : Array Value), h.get? a = some o ∧ o.cls = .ref C ∧ o.dict = some dx ∧ o.data = .fields vs
/-- what the written part says of a class of the program whose instances are plain objects, fs their fields -/
structure InsC (K : Frag) (C : Str) (fs : List (Str × D)) : Prop where
  cls : Cls K (He.ga K C)
  cn : PySem.W.findIn K (.ref (He.ga K C)) "__class__" = some (some (.builtin "object.__class__"))
  gt : PySem.W.specialIn K (.builtin "object.__class__") "__get__" = some (some (.builtin "getset_descriptor.__get__"))
  tk : PySem.W.takesIn K (.builtin "object.__class__") = some true
  ob : PySem.W.mroIn K (He.ga K C) (.type "object") = some true
  no : ∀ f, fs.lookup f ≠ none → PySem.W.findIn K (.ref (He.ga K C)) f = some none
/-- of an exception class -/
structure ExcC (K : Frag) (C : Str) (fs : List (Str × D)) : Prop where
  cl : (PySem.W.clsIn K (He.ga K C)).isSome = true
  ga : PySem.W.findIn K (.ref (He.ga K C)) "__getattribute__" = some (some (.builtin "BaseException.__getattribute__"))
  gg : PySem.W.findIn K (.ref (He.ga K C)) "__getattr__" = some none
  exC : PySem.W.subIn K (.ref (He.ga K C)) (.type "BaseException") = some true
  hdC : PySem.W.hasDictIn K (He.ga K C) = true
  cn : PySem.W.findIn K (.ref (He.ga K C)) "__class__" = some (some (.builtin "object.__class__"))
  gt : PySem.W.specialIn K (.builtin "object.__class__") "__get__" = some (some (.builtin "getset_descriptor.__get__"))
  tk : PySem.W.takesIn K (.builtin "object.__class__") = some true
  ob : PySem.W.mroIn K (He.ga K C) (.type "object") = some true
  no : ∀ f, fs.lookup f ≠ none → PySem.W.findIn K (.ref (He.ga K C)) f = some none

mutual
inductive Rep (K : Frag) (w : Wd) : V → D → Prop where
  | non : Rep K w .non .non
  | bl (b : Bool) : Rep K w (.bl b) (.bl b)
  | int (i : Int) : Rep K w (.int i) (.int i)
  | str (s : Str) : Rep K w (.str s) (.str s)
  | ty (n : String) : Rep K w (.ty n) (.ty n)
  | tup {a : Addr} {vs : List V} {ds : List D} (h : Rd w.H a (.tup vs)) (ho : a ∉ w.op) (hs : Reps K w vs ds) : Rep K w (.ref a) (.tup ds)
  | ktup {a : Addr} {vs : List V} {ds : List D} (h : ∀ H, SqT K H a vs) (hs : Reps K w vs ds) : Rep K w (.ref a) (.tup ds)
  | lst {a : Addr} {vs : List V} {ds : List D} (h : w.H a = some (.lst vs)) (hl : ¬ Live w a) (ho : a ∉ w.op) (hs : Reps K w vs ds) : Rep K w (.ref a) (.lst ds)
  | scr {a : Addr} {o : Obj} {vs : List V} {ds : List D} (h : w.H a = some (.frz o (.lst vs))) (hl : ¬ Live w a) (ho : a ∉ w.op) (hs : Reps K w vs ds) : Rep K w (.ref a) (.scr ds)
  | kscr {a : Addr} {vs : List V} {ds : List D} (h : ∀ H, SqL K H a vs) (ht : ∃ o, K.lookup a = some o ∧ o.cls = .type "list") (hs : Reps K w vs ds) : Rep K w (.ref a) (.scr ds)
  | ins {a dx : Addr} {C : Str} {fv : List (Str × V)} {fs : List (Str × D)} (h : w.H a = some (.ins (He.ga K C) dx fv)) (hl : ¬ Live w a) (ho : a ∉ w.op) (hs : RepF K w fv fs) (hc : InsC K C fs) : Rep K w (.ref a) (.ins C fs)
  | exo {a dx : Addr} {C : Str} {fv : List (Str × V)} {fs : List (Str × D)} (h : w.H a = some (xo a (He.ga K C) dx)) (h2 : w.H dx = some (.xd fv)) (hl : ¬ Live w a) (hl2 : ¬ Live w dx) (ho : a ∉ w.op) (ho2 : dx ∉ w.op) (hs : RepF K w fv fs) (hc : ExcC K C fs) : Rep K w (.ref a) (.ins C fs)
  | ref {a : Addr} {n : Nat} (h : w.mu[n]? = some a) : Rep K w (.ref a) (.ref n)
inductive Reps (K : Frag) (w : Wd) : List V → List D → Prop where
  | nil : Reps K w [] []
  | cons {v : V} {d : D} {vs : List V} {ds : List D} (h : Rep K w v d) (t : Reps K w vs ds) : Reps K w (v :: vs) (d :: ds)
inductive RepF (K : Frag) (w : Wd) : List (Str × V) → List (Str × D) → Prop where
  | nil : RepF K w [] []
  | cons {x : Str} {v : V} {d : D} {vs : List (Str × V)} {ds : List (Str × D)} (h : Rep K w v d) (t : RepF K w vs ds) : RepF K w ((x, v) :: vs) ((x, d) :: ds)
end
def RepO (K : Frag) (w : Wd) (a : Addr) : O → Prop
  | .lst ds => ∃ vs, w.H a = some (.lst vs) ∧ Reps K w vs ds
  | .ins C fs => ∃ dx fv, w.H a = some (.ins (He.ga K C) dx fv) ∧ RepF K w fv fs ∧ InsC K C fs
structure Ok (K : Frag) (w : Wd) : Prop where
  len : w.mu.length = w.st.length
  nd : w.mu.Nodup
  has : ∀ a ∈ w.mu, ∃ o, w.H a = some o
  opn : ∀ a ∈ w.op, a ∉ w.mu ∧ w.H a ≠ none
  obj : ∀ (n : Nat) (a : Addr) (o : O), w.mu[n]? = some a → w.st[n]? = some (some o) → RepO K w a o
  tab : LamX.Tabs (tabT K) w.H
structure Step (w w' : Wd) : Prop where
  ext : ∃ ν, w'.mu = w.mu ++ ν ∧ ∀ a ∈ ν, w.H a = none
  kp : ∀ a o, w.H a = some o → ¬ Live w a → (∀ ps, o ≠ .tbl ps) → w'.H a = some o
  dead : ∀ n : Nat, w.st[n]? = some none → w'.st[n]? = some none
  len : w.st.length ≤ w'.st.length
  has : ∀ a, w.H a ≠ none → w'.H a ≠ none
  op : ∃ l, w'.op = l ++ w.op ∧ ∀ a ∈ l, w.H a = none

theorem Step.keep {w w' : Wd} (s : Step w w') (a : Addr) (o : HO) (h : w.H a = some o) (hl : ¬ Live w a) (hn : ∀ ps, o ≠ .tbl ps := by intro ps z; first | exact nomatch z | cases z) : w'.H a = some o := s.kp a o h hl hn
theorem Step.refl (w : Wd) : Step w w := ⟨⟨[], by simp, by simp⟩, fun _ _ h _ _ => h, fun _ h => h, Nat.le_refl _, fun _ h => h, ⟨[], rfl, by simp⟩⟩
theorem not_none {α : Type} {o : Option α} {x : α} (h : o = some x) : o ≠ none := by rw [h]; simp
section
variable {K : Frag} {w w' w2 : Wd}
theorem Step.live (s : Step w w') (ok : Ok K w) {a : Addr} (h : w.H a ≠ none) (hl : ¬ Live w a) : ¬ Live w' a := by
  rintro ⟨n, o, h1, h2⟩
  obtain ⟨ν, e, hν⟩ := s.ext
  rw [e] at h1
  by_cases hn : n < w.mu.length
  · rw [List.getElem?_append_left hn] at h1
    have hn2 : n < w.st.length := by rw [← ok.len]; exact hn
    have e2 : w.st[n]? = some w.st[n] := List.getElem?_eq_getElem hn2
    cases q : w.st[n] with
    | none =>
      rw [q] at e2
      rw [s.dead n e2] at h2
      cases h2
    | some o' =>
      rw [q] at e2
      exact hl ⟨n, o', h1, e2⟩
  · rw [List.getElem?_append_right (by omega)] at h1
    exact h (hν a (List.mem_of_getElem? h1))
theorem Step.trans (s : Step w w') (t : Step w' w2) (ok : Ok K w) : Step w w2 := by
  obtain ⟨ν, e, hν⟩ := s.ext
  obtain ⟨ν', e', hν'⟩ := t.ext
  refine ⟨⟨ν ++ ν', by rw [e', e, List.append_assoc], fun a ha => ?_⟩, fun a o h hl hn => ?_, fun n h => t.dead n (s.dead n h), Nat.le_trans s.len t.len, fun a h => t.has a (s.has a h), ?_⟩
  · rcases List.mem_append.mp ha with h | h
    · exact hν a h
    · have q := hν' a h
      cases z : w.H a with
      | none => rfl
      | some o => exact absurd q (s.has a (not_none z))
  · exact t.kp a o (s.kp a o h hl hn) (s.live ok (not_none h) hl) hn
  · obtain ⟨l, e1, h1⟩ := s.op
    obtain ⟨l', e2, h2⟩ := t.op
    refine ⟨l' ++ l, by rw [e2, e1, List.append_assoc], fun a ha => ?_⟩
    rcases List.mem_append.mp ha with h | h
    · cases z : w.H a with
      | none => rfl
      | some o => exact absurd (h2 a h) (s.has a (not_none z))
    · exact h1 a h
theorem Step.notOp (s : Step w w') {a : Addr} (h : w.H a ≠ none) (ho : a ∉ w.op) : a ∉ w'.op := by
  obtain ⟨l, e, hl⟩ := s.op
  rw [e]
  intro z
  rcases List.mem_append.mp z with z | z
  · exact h (hl a z)
  · exact ho z
theorem Step.mu_get (s : Step w w') {n : Nat} {a : Addr} (h : w.mu[n]? = some a) : w'.mu[n]? = some a := by
  obtain ⟨ν, e, _⟩ := s.ext
  rw [e, List.getElem?_append_left]
  · exact h
  · exact (List.getElem?_eq_some_iff.mp h).1
theorem Ok.live_obj (ok : Ok K w) {a : Addr} (h : Live w a) : (∃ vs, w.H a = some (.lst vs)) ∨ ∃ C dx fv, w.H a = some (.ins C dx fv) := by
  obtain ⟨n, o, h1, h2⟩ := h
  have r := ok.obj n a o h1 h2
  cases o with
  | lst ds =>
    obtain ⟨vs, e, _⟩ := r
    exact .inl ⟨vs, e⟩
  | ins C fs =>
    obtain ⟨dx, fv, e, _⟩ := r
    exact .inr ⟨_, dx, fv, e⟩
theorem Step.rdT (s : Step w w') (ok : Ok K w) {a : Addr} {vs : List V} (h : Rd w.H a (.tup vs)) : Rd w'.H a (.tup vs) := by
  have nl : ∀ o, w.H a = some o → (∀ xs, o ≠ .lst xs) → (∀ C dx fv, o ≠ .ins C dx fv) → ¬ Live w a := by
    intro o e h1 h2 hl
    rcases ok.live_obj hl with ⟨xs, q⟩ | ⟨C, dx, fv, q⟩
    · rw [e] at q; cases q; exact h1 _ rfl
    · rw [e] at q; cases q; exact h2 _ _ _ rfl
  rcases h with h | ⟨o, h⟩
  · exact .inl (s.keep a _ h (nl _ h (fun _ z => nomatch z) fun _ _ _ z => nomatch z))
  · exact .inr ⟨o, s.keep a _ h (nl _ h (fun _ z => nomatch z) fun _ _ _ z => nomatch z)⟩
theorem Step.rdL (s : Step w w') {a : Addr} {vs : List V} (h : Rd w.H a (.lst vs)) (hl : ¬ Live w a) : Rd w'.H a (.lst vs) := by
  rcases h with h | ⟨o, h⟩
  · exact .inl (s.keep a _ h hl)
  · exact .inr ⟨o, s.keep a _ h hl⟩
theorem Rd.ne {H : Hp} {a : Addr} {u : HO} (h : Rd H a u) : H a ≠ none := by
  rcases h with h | ⟨o, h⟩
  · exact not_none h
  · exact not_none h
mutual
theorem Rep.step {v : V} {d : D} (s : Step w w') (ok : Ok K w) (r : Rep K w v d) : Rep K w' v d := by
  cases r with
  | non => exact .non
  | bl b => exact .bl b
  | int i => exact .int i
  | str z => exact .str z
  | ty n => exact .ty n
  | tup h ho hs => exact .tup (s.rdT ok h) (s.notOp (Rd.ne h) ho) (Reps.step s ok hs)
  | ktup h hs => exact .ktup h (Reps.step s ok hs)
  | lst h hl ho hs => exact .lst (s.keep _ _ h hl) (s.live ok (not_none h) hl) (s.notOp (not_none h) ho) (Reps.step s ok hs)
  | scr h hl ho hs => exact .scr (s.keep _ _ h hl) (s.live ok (not_none h) hl) (s.notOp (not_none h) ho) (Reps.step s ok hs)
  | kscr h ht hs => exact .kscr h ht (Reps.step s ok hs)
  | ins h hl ho hs hc => exact .ins (s.keep _ _ h hl) (s.live ok (not_none h) hl) (s.notOp (not_none h) ho) (RepF.step s ok hs) hc
  | exo h h2 hl hl2 ho ho2 hs hc => exact .exo (s.keep _ _ h hl) (s.keep _ _ h2 hl2) (s.live ok (not_none h) hl) (s.live ok (not_none h2) hl2) (s.notOp (not_none h) ho) (s.notOp (not_none h2) ho2) (RepF.step s ok hs) hc
  | ref h => exact .ref (s.mu_get h)
theorem Reps.step {vs : List V} {ds : List D} (s : Step w w') (ok : Ok K w) (r : Reps K w vs ds) : Reps K w' vs ds := by
  cases r with
  | nil => exact .nil
  | cons h t => exact .cons (Rep.step s ok h) (Reps.step s ok t)
theorem RepF.step {vs : List (Str × V)} {ds : List (Str × D)} (s : Step w w') (ok : Ok K w) (r : RepF K w vs ds) : RepF K w' vs ds := by
  cases r with
  | nil => exact .nil
  | cons h t => exact .cons (Rep.step s ok h) (RepF.step s ok t)
end
theorem Reps.length : ∀ {vs : List V} {ds : List D}, Reps K w vs ds → vs.length = ds.length
  | _, _, .nil => rfl
  | _, _, .cons _ t => congrArg Nat.succ t.length
theorem Reps.append : ∀ {vs us : List V} {ds es : List D}, Reps K w vs ds → Reps K w us es → Reps K w (vs ++ us) (ds ++ es)
  | _, _, _, _, .nil, s => s
  | _, _, _, _, .cons r t, s => .cons r (t.append s)
theorem Reps.get : ∀ {vs : List V} {ds : List D} {i : Nat} {d : D}, Reps K w vs ds → ds[i]? = some d → ∃ v, vs[i]? = some v ∧ Rep K w v d
  | _, _, 0, _, .cons r _, e => by simp at e; subst e; exact ⟨_, rfl, r⟩
  | _, _, i + 1, d, .cons _ t, e => by
    obtain ⟨v, h1, h2⟩ := Reps.get (i := i) (d := d) t (by simpa using e)
    exact ⟨v, by simpa using h1, h2⟩
theorem Reps.getV : ∀ {vs : List V} {ds : List D} {i : Nat} {v : V}, Reps K w vs ds → vs[i]? = some v → ∃ d, ds[i]? = some d ∧ Rep K w v d
  | _, _, 0, _, .cons r _, e => by simp at e; subst e; exact ⟨_, rfl, r⟩
  | _, _, i + 1, d, .cons _ t, e => by
    obtain ⟨v, h1, h2⟩ := Reps.getV (i := i) (v := d) t (by simpa using e)
    exact ⟨v, by simpa using h1, h2⟩
theorem Reps.set {v : V} {d : D} (r : Rep K w v d) : ∀ {vs : List V} {ds : List D} (i : Nat), Reps K w vs ds → Reps K w (vs.set i v) (ds.set i d)
  | _, _, _, .nil => .nil
  | _, _, 0, .cons _ t => .cons r t
  | _, _, i + 1, .cons q t => .cons q (Reps.set r i t)
theorem Reps.take : ∀ {vs : List V} {ds : List D} (n : Nat), Reps K w vs ds → Reps K w (vs.take n) (ds.take n)
  | _, _, 0, _ => by simp; exact .nil
  | _, _, _ + 1, .nil => .nil
  | _, _, n + 1, .cons r t => .cons r (Reps.take n t)
theorem Reps.drop : ∀ {vs : List V} {ds : List D} (n : Nat), Reps K w vs ds → Reps K w (vs.drop n) (ds.drop n)
  | _, _, 0, r => r
  | _, _, _ + 1, .nil => .nil
  | _, _, n + 1, .cons _ t => Reps.drop n t
theorem Reps.reverse : ∀ {vs : List V} {ds : List D}, Reps K w vs ds → Reps K w vs.reverse ds.reverse
  | _, _, .nil => .nil
  | _, _, .cons r t => by
    rw [List.reverse_cons, List.reverse_cons]
    exact t.reverse.append (.cons r .nil)
theorem Reps.zip : ∀ {vs us : List V} {ds es : List D} {i : Nat}, Reps K w vs ds → Reps K w us es → ∀ {v u : V}, vs[i]? = some v → us[i]? = some u → ∃ d e, ds[i]? = some d ∧ es[i]? = some e ∧ Rep K w v d ∧ Rep K w u e := by
  intro vs us ds es i r s v u h1 h2
  obtain ⟨d, e1, r1⟩ := r.getV h1
  obtain ⟨e, e2, r2⟩ := s.getV h2
  exact ⟨d, e, e1, e2, r1, r2⟩
theorem RepF.lookup {x : Str} : ∀ {vs : List (Str × V)} {ds : List (Str × D)} {d : D}, RepF K w vs ds → ds.lookup x = some d → ∃ v, vs.lookup x = some v ∧ Rep K w v d
  | _, _, _, .nil, e => by simp at e
  | (y, v) :: vs, _ :: ds, d, .cons r t, e => by
    rw [List.lookup_cons] at e ⊢
    cases q : x == y with
    | true =>
      rw [q] at e
      exact ⟨v, rfl, by cases e; exact r⟩
    | false =>
      rw [q] at e
      exact RepF.lookup t e
theorem RepF.lookup_none {x : Str} : ∀ {vs : List (Str × V)} {ds : List (Str × D)}, RepF K w vs ds → ds.lookup x = none → vs.lookup x = none
  | _, _, .nil, _ => rfl
  | (y, v) :: vs, _ :: ds, .cons r t, e => by
    rw [List.lookup_cons] at e ⊢
    cases q : x == y with
    | true => rw [q] at e; cases e
    | false =>
      rw [q] at e
      exact RepF.lookup_none t e
theorem RepF.length : ∀ {vs : List (Str × V)} {ds : List (Str × D)}, RepF K w vs ds → vs.length = ds.length
  | _, _, .nil => rfl
  | _, _, .cons _ t => congrArg Nat.succ t.length
end
mutual
def D.und (n : Nat) : D → Bool
  | .ref m => decide (m < n)
  | .tup ds => D.unds n ds
  | .lst ds => D.unds n ds
  | .scr ds => D.unds n ds
  | .ins _ fs => D.undF n fs
  | _ => true
def D.unds (n : Nat) : List D → Bool
  | [] => true
  | d :: ds => D.und n d && D.unds n ds
def D.undF (n : Nat) : List (Str × D) → Bool
  | [] => true
  | (_, d) :: ds => D.und n d && D.undF n ds
end
def O.und (n : Nat) : O → Bool
  | .lst ds => D.unds n ds
  | .ins _ fs => D.undF n fs
def stoBelow (n : Nat) (st : Sto) : Bool := st.all fun o => match o with
  | some o => O.und n o
  | none => true
theorem tabs_put {T : List (Addr × Str)} {H : Hp} {p : Addr} {o : HO} (t : LamX.Tabs T H) (h : H p = none) : LamX.Tabs T (upd H p o) := t.ext fun b u e => by
  rw [upd_ne (fun z => by rw [z, h] at e; cases e)]
  exact e
theorem tabs_mv {T : List (Addr × Str)} {H H' : Hp} {a : Addr} {o0 : HO} (t : LamX.Tabs T H) (h : H a = some o0) (h1 : ∀ ps, o0 ≠ .tbl ps) (h2 : ∀ c q, o0 ≠ LamX.CodeO c q) (e : ∀ b, b ≠ a → H' b = H b) : LamX.Tabs T H' := fun p hp => by
  obtain ⟨ps, e1, e2, e3⟩ := t p hp
  have n1 : p.1 ≠ a := fun z => by
    rw [z, h] at e1
    exact h1 _ (Option.some.inj e1)
  refine ⟨ps, by rw [e _ n1]; exact e1, e2, fun pos cv hc => ?_⟩
  obtain ⟨c, e4, e5⟩ := e3 pos cv hc
  refine ⟨c, e4, ?_⟩
  rw [e c fun z => by
    rw [z, h] at e5
    exact h2 _ _ (Option.some.inj e5)]
  exact e5
theorem tabs_wr {T : List (Addr × Str)} {H : Hp} {a : Addr} {o0 o : HO} (t : LamX.Tabs T H) (h : H a = some o0) (h1 : ∀ ps, o0 ≠ .tbl ps) (h2 : ∀ c q, o0 ≠ LamX.CodeO c q) : LamX.Tabs T (upd H a o) := tabs_mv t h h1 h2 fun b hb => upd_ne hb
theorem lst_ne_code {vs : List V} (c : Addr) (q : Str) : HO.lst vs ≠ LamX.CodeO c q := fun z => by unfold LamX.CodeO at z; cases z
theorem ins_ne_code {C dx : Addr} {fv : List (Str × V)} (c : Addr) (q : Str) : HO.ins C dx fv ≠ LamX.CodeO c q := fun z => by unfold LamX.CodeO at z; cases z
theorem Ok.live_tab {K : Frag} {w : Wd} (ok : Ok K w) {a : Addr} (h : Live w a) {o : HO} : LamX.Tabs (tabT K) (upd w.H a o) := by
  rcases ok.live_obj h with ⟨vs, e⟩ | ⟨C, dx, fv, e⟩
  · exact tabs_wr ok.tab e (fun _ z => nomatch z) lst_ne_code
  · exact tabs_wr ok.tab e (fun _ z => nomatch z) ins_ne_code
end Sim

set_option Elab.async false
set_option linter.all false
set_option maxRecDepth 100000
set_option maxHeartbeats 4000000
/-! judgements, straight code -/
namespace Sim
open PySem PySem.Spec PyProof.Rows L2

abbrev Sl := List (Option D)
abbrev Em := Sl → Sto → Res D
abbrev Tm := Sl → Sto → Res Bool
abbrev Am := Sl → Sto → Res (List D)
inductive RS where
  | nx (σ : Sl) (st : Sto) | rt (d : D) (st : Sto) | bk (σ : Sl) (st : Sto) | ct (σ : Sl) (st : Sto) | exc (x : Exn) (σ : Sl) (st : Sto) | bad
abbrev Sm := Sl → Sto → RS

structure Slots (K : Frag) (w : Wd) (σ : Sl) (σV : L2.St) : Prop where
  len : σ.length = σV.length
  get : ∀ (i : Nat) (d : D), σ[i]? = some (some d) → ∃ v, σV[i]? = some (some v) ∧ Rep K w v d
def RepX (K : Frag) (w : Wd) (x : Exn) (cls : Value) (dd : Option Addr) : Prop :=
  cls = .ref (He.ga K x.cls) ∧ ExcC K x.cls x.fs ∧ ∃ d fv, dd = some d ∧ w.H d = some (.xd fv) ∧ ¬ Live w d ∧ d ∉ w.op ∧ RepF K w fv x.fs

section
variable {α β : Type}
def PR (K : Frag) (R : Wd → β → α → Prop) (w : Wd) (r : Res α) (Q : β → Hp → Prop) (E : XK) : Prop := match r with
  | .ok d st => ∀ b mu H, Step w ⟨mu, st, H, w.op⟩ → Ok K ⟨mu, st, H, w.op⟩ → R ⟨mu, st, H, w.op⟩ b d → Q b H
  | .exc x st => ∀ c dd mu H, Step w ⟨mu, st, H, w.op⟩ → Ok K ⟨mu, st, H, w.op⟩ → RepX K ⟨mu, st, H, w.op⟩ x c dd → E c dd H
  | .bad => False
def PSr (K : Frag) (w : Wd) (r : RS) (D : Ends) (W : WX) : Prop := match r with
  | .nx σ st => ∀ σV mu H, Step w ⟨mu, st, H, w.op⟩ → Ok K ⟨mu, st, H, w.op⟩ → Slots K ⟨mu, st, H, w.op⟩ σ σV → D.nx σV H
  | .rt d st => ∀ v mu H, Step w ⟨mu, st, H, w.op⟩ → Ok K ⟨mu, st, H, w.op⟩ → Rep K ⟨mu, st, H, w.op⟩ v d → D.rt v H
  | .bk σ st => ∀ σV mu H, Step w ⟨mu, st, H, w.op⟩ → Ok K ⟨mu, st, H, w.op⟩ → Slots K ⟨mu, st, H, w.op⟩ σ σV → D.bk σV H
  | .ct σ st => ∀ σV mu H, Step w ⟨mu, st, H, w.op⟩ → Ok K ⟨mu, st, H, w.op⟩ → Slots K ⟨mu, st, H, w.op⟩ σ σV → D.ct σV H
  | .exc x σ st => ∀ c dd σV mu H, Step w ⟨mu, st, H, w.op⟩ → Ok K ⟨mu, st, H, w.op⟩ → Slots K ⟨mu, st, H, w.op⟩ σ σV → RepX K ⟨mu, st, H, w.op⟩ x c dd → W c dd σV H
  | .bad => False
variable {K : Frag} {w w' w2 : Wd}
theorem Slots.step {σ : Sl} {σV : L2.St} (s : Step w w') (ok : Ok K w) (h : Slots K w σ σV) : Slots K w' σ σV :=
  ⟨h.len, fun i d e => let ⟨v, e1, r⟩ := h.get i d e; ⟨v, e1, r.step s ok⟩⟩
theorem RepX.step {x : Exn} {c : Value} {dd : Option Addr} (s : Step w w') (ok : Ok K w) (h : RepX K w x c dd) : RepX K w' x c dd := by
  obtain ⟨h1, hc, d, fv, h2, h3, h4, h6, h5⟩ := h
  exact ⟨h1, hc, d, fv, h2, s.keep _ _ h3 h4, s.live ok (not_none h3) h4, s.notOp (not_none h3) h6, h5.step s ok⟩
theorem Slots.set {σ : Sl} {σV : L2.St} {v : V} {d : D} (h : Slots K w σ σV) (r : Rep K w v d) (i : Nat) : Slots K w (σ.set i (some d)) (σV.set i (some v)) := by
  refine ⟨by simpa using h.len, fun j e hj => ?_⟩
  by_cases q : j = i
  · subst q
    have hl : j < σ.length := by
      have := (List.getElem?_eq_some_iff.mp hj).1
      simpa using this
    rw [List.getElem?_set_self hl] at hj
    cases hj
    exact ⟨v, List.getElem?_set_self (by rw [← h.len]; exact hl), r⟩
  · rw [List.getElem?_set_ne (Ne.symm q)] at hj
    obtain ⟨u, e1, r1⟩ := h.get j e hj
    exact ⟨u, by rw [List.getElem?_set_ne (Ne.symm q)]; exact e1, r1⟩
theorem Slots.del {σ : Sl} {σV : L2.St} (h : Slots K w σ σV) (i : Nat) (o : Option V) : Slots K w (σ.set i none) (σV.set i o) := by
  refine ⟨by simpa using h.len, fun j e hj => ?_⟩
  by_cases q : j = i
  · subst q
    have hl : j < σ.length := by
      have := (List.getElem?_eq_some_iff.mp hj).1
      simpa using this
    rw [List.getElem?_set_self hl] at hj
    cases hj
  · rw [List.getElem?_set_ne (Ne.symm q)] at hj
    obtain ⟨u, e1, r1⟩ := h.get j e hj
    exact ⟨u, by rw [List.getElem?_set_ne (Ne.symm q)]; exact e1, r1⟩
variable {R R1 R2 : Wd → β → α → Prop}
theorem PR.step {r : Res α} {Q : β → Hp → Prop} {E : XK} (s : Step w w') (ok : Ok K w) (h : PR K R w r Q E) (hop : w'.op = w.op := by rfl) : PR K R w' r Q E := by
  obtain ⟨mu', st', H', op'⟩ := w'
  obtain rfl : op' = w.op := hop
  cases r with
  | ok d st => exact fun b mu H t o q => h b mu H (s.trans t ok) o q
  | exc x st => exact fun c dd mu H t o q => h c dd mu H (s.trans t ok) o q
  | bad => exact h
theorem PR.mono {r : Res α} {Q Q' : β → Hp → Prop} {E E' : XK} (h : PR K R w r Q E) (hq : ∀ b H, Q b H → Q' b H) (he : ∀ c d H, E c d H → E' c d H) : PR K R w r Q' E' := by
  cases r with
  | ok d st => exact fun b mu H t o q => hq _ _ (h b mu H t o q)
  | exc x st => exact fun c dd mu H t o q => he _ _ _ (h c dd mu H t o q)
  | bad => exact h
theorem PR.bind {γ δ : Type} {Ra : Wd → δ → γ → Prop} {r : Res γ} {f : γ → Sto → Res α} {Q : β → Hp → Prop} {E : XK} {Qa : δ → Hp → Prop} (ok : Ok K w) (h : PR K R w (r.bind f) Q E)
    (k : ∀ d st b mu H, r = .ok d st → Step w ⟨mu, st, H, w.op⟩ → Ok K ⟨mu, st, H, w.op⟩ → Ra ⟨mu, st, H, w.op⟩ b d → PR K R ⟨mu, st, H, w.op⟩ (f d st) Q E → Qa b H) : PR K Ra w r Qa E := by
  cases r with
  | ok d st => exact fun b mu H t o q => k d st b mu H rfl t o q (PR.step t ok h)
  | exc x st => exact h
  | bad => exact h
theorem PSr.step {r : RS} {D : Ends} {W : WX} (s : Step w w') (ok : Ok K w) (h : PSr K w r D W) (hop : w'.op = w.op := by rfl) : PSr K w' r D W := by
  obtain ⟨mu', st', H', op'⟩ := w'
  obtain rfl : op' = w.op := hop
  cases r with
  | nx σ st => exact fun b mu H t o q => h b mu H (s.trans t ok) o q
  | rt σ st => exact fun b mu H t o q => h b mu H (s.trans t ok) o q
  | bk σ st => exact fun b mu H t o q => h b mu H (s.trans t ok) o q
  | ct σ st => exact fun b mu H t o q => h b mu H (s.trans t ok) o q
  | exc x σ st => exact fun c dd b mu H t o q => h c dd b mu H (s.trans t ok) o q
  | bad => exact h
/-- pure results -/
theorem PR.ret {d : α} {b : β} {Q : β → Hp → Prop} {E : XK} (ok : Ok K w) (h : PR K R w (.ok d w.st) Q E) (r : R w b d) : Q b w.H := by
  obtain ⟨mu, st, H, op⟩ := w
  exact h b mu H (.refl _) ok r
end
abbrev xk (W : WX) (σV : L2.St) : XK := fun c dd H => W c dd σV H
def TEm (K : Frag) (m : Em) (W : WX) : TE := fun σV H Q => ∃ w σ, w.H = H ∧ Ok K w ∧ Slots K w σ σV ∧ PR K (Rep K) w (m σ w.st) Q (xk W σV)
def TTm (K : Frag) (m : Tm) (W : WX) : TT := fun σV H Q => ∃ w σ, w.H = H ∧ Ok K w ∧ Slots K w σ σV ∧ PR K (fun _ b c => b = c) w (m σ w.st) Q (xk W σV)
def TAm (K : Frag) (m : Am) (W : WX) : TA := fun σV H Q => ∃ w σ, w.H = H ∧ Ok K w ∧ Slots K w σ σV ∧ PR K (Reps K) w (m σ w.st) Q (xk W σV)
def TSm (K : Frag) (m : Sm) (W : WX) : TS := fun D σV H => ∃ w σ, w.H = H ∧ Ok K w ∧ Slots K w σ σV ∧ PSr K w (m σ w.st) D W
def SE (X : Cx) (W : WX) (e : Expr) (m : Em) : Prop := PE X e (TEm X.K m W)
def ST (X : Cx) (W : WX) (e : Expr) (m : Tm) : Prop := PT X e (TTm X.K m W)
def SW (X : Cx) (W : WX) (e : Expr) (m : Tm) : Prop := PW X e (TTm X.K m W)
def SA (X : Cx) (W : WX) (es : List Expr) (m : Am) : Prop := PA X es (TAm X.K m W)
def SS (X : Cx) (W : WX) (s : Stmt) (m : Sm) : Prop := PS X s (TSm X.K m W)
def SSs (X : Cx) (W : WX) (s : List Stmt) (m : Sm) : Prop := PSs X s (TSm X.K m W)
/-- weakening the reading -/
theorem pe_imp {X : Cx} {e : Expr} {t t' : TE} (h : PE X e t) (i : ∀ σ H Q, t' σ H Q → t σ H Q) : PE X e t' := ⟨fun pins s σ H Q I q => h.run pins s σ H Q I (i σ H Q q)⟩
theorem pt_imp {X : Cx} {e : Expr} {t t' : TT} (h : PT X e t) (i : ∀ σ H Q, t' σ H Q → t σ H Q) : PT X e t' := ⟨fun pins s σ H Q I q => h.run pins s σ H Q I (i σ H Q q)⟩
theorem pw_imp {X : Cx} {e : Expr} {t t' : TT} (h : PW X e t) (i : ∀ σ H Q, t' σ H Q → t σ H Q) : PW X e t' := ⟨fun wh pins s σ H Q I q => h.run wh pins s σ H Q I (i σ H Q q)⟩
theorem pa_imp {X : Cx} {e : List Expr} {t t' : TA} (h : PA X e t) (i : ∀ σ H Q, t' σ H Q → t σ H Q) : PA X e t' := ⟨fun pos pins s σ H Q I q => h.run pos pins s σ H Q I (i σ H Q q)⟩
theorem ps_imp {X : Cx} {e : Stmt} {t t' : TS} (h : PS X e t) (i : ∀ D σ H, t' D σ H → t D σ H) : PS X e t' := ⟨fun pins s σ H D I q => h.run pins s σ H D I (i D σ H q)⟩
theorem pss_imp {X : Cx} {e : List Stmt} {t t' : TS} (h : PSs X e t) (i : ∀ D σ H, t' D σ H → t D σ H) : PSs X e t' := ⟨fun pins s σ H D I q => h.run pins s σ H D I (i D σ H q)⟩

/-! ### expressions -/
section
variable {X : Cx} {W : WX} {K : Frag}
def eVar (i : Nat) : Em := fun σ st => match σ[i]? with
  | some (some d) => .ok d st
  | _ => .bad
theorem se_var {i : Nat} {e : Expr} (h : PE X e (tVar i)) : SE X W e (eVar i) := pe_imp h fun σV H Q q => by
  obtain ⟨w, σ, rfl, ok, sl, p⟩ := q
  unfold eVar at p
  cases e1 : σ[i]? with
  | none => rw [e1] at p; exact p.elim
  | some o =>
    cases o with
    | none => rw [e1] at p; exact p.elim
    | some d =>
      rw [e1] at p
      obtain ⟨v, e2, r⟩ := sl.get i d e1
      exact ⟨v, e2, PR.ret (R := Rep X.K) ok p r⟩
def eC (d : D) : Em := fun _ st => .ok d st
theorem se_C {e : Expr} {v : V} {d : D} (h : PE X e (tC v)) (r : ∀ w, Ok X.K w → Rep X.K w v d) : SE X W e (eC d) := pe_imp h fun σV H Q q => by
  obtain ⟨w, σ, rfl, ok, sl, p⟩ := q
  exact PR.ret (R := Rep X.K) ok p (r w ok)
theorem se_int {i : Int} {j pos} : SE X W (.Constant (.int i) j pos) (eC (.int i)) := se_C pe_int fun _ _ => .int i
theorem se_bl {b : Bool} {j pos} : SE X W (.Constant (.bool b) j pos) (eC (.bl b)) := se_C pe_bl fun _ _ => .bl b
theorem se_non {j pos} : SE X W (.Constant .none j pos) (eC .non) := se_C pe_non fun _ _ => .non
theorem se_str {x : Str} {j pos} : SE X W (.Constant (.str x) j pos) (eC (.str x)) := se_C pe_str fun _ _ => .str x
/-- the inner step of two places -/
def GOp (K : Frag) (r : R2) (g : D → D → Sto → Res D) : Prop := ∀ (w : Wd) (x y : V) (dx dy : D) (Q : VK) (E : XK), Ok K w → Rep K w x dx → Rep K w y dy → PR K (Rep K) w (g dx dy w.st) Q E → r x y w.H Q
def GUn (K : Frag) (r : V → Hp → VK → Prop) (g : D → Sto → Res D) : Prop := ∀ (w : Wd) (x : V) (dx : D) (Q : VK) (E : XK), Ok K w → Rep K w x dx → PR K (Rep K) w (g dx w.st) Q E → r x w.H Q
@[simp] def eBin (g : D → D → Sto → Res D) (a b : Em) : Em := fun σ st => (a σ st).bind fun x st1 => (b σ st1).bind fun y st2 => g x y st2
@[simp] def eUn (g : D → Sto → Res D) (a : Em) : Em := fun σ st => (a σ st).bind fun x st1 => g x st1
theorem t_bin {r : R2} {g : D → D → Sto → Res D} {a b : Em} (hg : GOp K r g) {σV : L2.St} {H : Hp} {Q : VK} (q : TEm K (eBin g a b) W σV H Q) : tOp r (TEm K a W) (TEm K b W) σV H Q := by
  obtain ⟨w, σ, rfl, ok, sl, p⟩ := q
  refine ⟨w, σ, rfl, ok, sl, PR.bind ok p fun d st x mu H1 e1 s1 ok1 r1 p1 => ?_⟩
  refine ⟨⟨mu, st, H1, w.op⟩, σ, rfl, ok1, sl.step s1 ok, PR.bind ok1 p1 fun d2 st2 y mu2 H2 e2 s2 ok2 r2 p2 => ?_⟩
  exact hg ⟨mu2, st2, H2, w.op⟩ x y d d2 Q _ ok2 (r1.step s2 ok1) r2 p2
theorem t_un {r : V → Hp → VK → Prop} {g : D → Sto → Res D} {a : Em} (hg : GUn K r g) {σV : L2.St} {H : Hp} {Q : VK} (q : TEm K (eUn g a) W σV H Q) : tUn r (TEm K a W) σV H Q := by
  obtain ⟨w, σ, rfl, ok, sl, p⟩ := q
  refine ⟨w, σ, rfl, ok, sl, PR.bind ok p fun d st x mu H1 e1 s1 ok1 r1 p1 => ?_⟩
  exact hg ⟨mu, st, H1, w.op⟩ x d Q _ ok1 r1 p1
theorem se_bin {op : Operator} {r : R2} {g : D → D → Sto → Res D} {a b : Expr} {ma mb : Em} {pos : Pos} (ho : OpR X (binaryOp op) r) (hg : GOp X.K r g) (ha : SE X W a ma) (hb : SE X W b mb) : SE X W (.BinOp a op b pos) (eBin g ma mb) :=
  pe_imp (pe_op ho ha hb) fun _ _ _ q => t_bin hg q
theorem se_un {op : UnaryOp} {r : V → Hp → VK → Prop} {g : D → Sto → Res D} {a : Expr} {ma : Em} {pos : Pos} (ho : UnR X (unaryOp op) r) (hg : GUn X.K r g) (ha : SE X W a ma) : SE X W (.UnaryOp op a pos) (eUn g ma) :=
  pe_imp (pe_un ho ha) fun _ _ _ q => t_un hg q
theorem se_cmp {op : CmpOp} {r : R2} {g : D → D → Sto → Res D} {a b : Expr} {ma mb : Em} {pos : Pos} (ho : OpR X (compareOp op) r) (hg : GOp X.K r g) (ha : SE X W a ma) (hb : SE X W b mb) (hm : behindInMarks op b = false) : SE X W (.Compare a [op] [b] pos) (eBin g ma mb) :=
  pe_imp (pe_cmpR ho ha hb hm) fun _ _ _ q => t_bin hg q
/-- a value that is a bool, as a test -/
@[simp] def tOf (m : Em) : Tm := fun σ st => (m σ st).bind fun d st => match d with
  | .bl b => .ok b st
  | _ => .bad
theorem t_test {m : Em} {σV : L2.St} {H : Hp} {Q : Bool → Hp → Prop} (q : TTm K (tOf m) W σV H Q) : tTest (TEm K m W) σV H Q := by
  obtain ⟨w, σ, rfl, ok, sl, p⟩ := q
  refine ⟨w, σ, rfl, ok, sl, PR.bind ok p fun d st x mu H1 e1 s1 ok1 r1 p1 => ?_⟩
  cases r1 with
  | bl b => exact ⟨b, rfl, PR.ret (R := fun _ b c => b = c) ok1 p1 rfl⟩
  | _ => exact p1.elim
theorem st_cmp {op : CmpOp} {r : R2} {g : D → D → Sto → Res D} {a b : Expr} {ma mb : Em} {pos : Pos} (ho : OpR X (compareOp op) r) (hg : GOp X.K r g) (ha : SE X W a ma) (hb : SE X W b mb) (hm : behindInMarks op b = false) : ST X W (.Compare a [op] [b] pos) (tOf (eBin g ma mb)) :=
  pt_imp (pt_cmpR ho ha hb hm) fun σV H Q q => by
    have q2 := t_test q
    obtain ⟨w, σ, h1, ok, sl, p⟩ := q2
    exact t_bin hg ⟨w, σ, h1, ok, sl, p⟩
end
end Sim

set_option Elab.async false
set_option linter.all false
set_option maxRecDepth 100000
set_option maxHeartbeats 4000000
/-! tests, displays, statements -/
namespace Sim
open PySem PySem.Spec PyProof.Rows L2

/-! ### worlds with one thing more -/
section
variable {K : Frag} {w : Wd}
def Wd.put (w : Wd) (p : Addr) (o : HO) : Wd := ⟨w.mu, w.st, upd w.H p o, w.op⟩
theorem Ok.notMem (ok : Ok K w) {p : Addr} (h : w.H p = none) : p ∉ w.mu := fun hm => by
  obtain ⟨o, e⟩ := ok.has p hm
  rw [h] at e; cases e
theorem put_step {p : Addr} {o : HO} (h : w.H p = none) : Step w (w.put p o) := by
  refine ⟨⟨[], by simp [Wd.put], by simp⟩, fun a u e _ _ => ?_, fun _ e => e, Nat.le_refl _, fun a e => ?_, ⟨[], rfl, by simp⟩⟩
  · show upd w.H p o a = some u
    rw [upd_ne (ne_of_none e h)]; exact e
  · show upd w.H p o a ≠ none
    by_cases q : a = p
    · rw [q, upd_same]; simp
    · rw [upd_ne q]; exact e
theorem put_live {p : Addr} {o : HO} (ok : Ok K w) (h : w.H p = none) : ¬ Live (w.put p o) p := by
  rintro ⟨n, u, h1, _⟩
  exact ok.notMem h (List.mem_of_getElem? h1)
theorem RepO.step {w' : Wd} {a : Addr} {o : O} (s : Step w w') (ok : Ok K w) (e : w'.H a = w.H a) (r : RepO K w a o) : RepO K w' a o := by
  cases o with
  | lst ds =>
    obtain ⟨vs, h, q⟩ := r
    exact ⟨vs, e.trans h, q.step s ok⟩
  | ins C fs =>
    obtain ⟨dx, fv, h, q, hc⟩ := r
    exact ⟨dx, fv, e.trans h, q.step s ok, hc⟩
theorem put_ok {p : Addr} {o : HO} (ok : Ok K w) (h : w.H p = none) : Ok K (w.put p o) := by
  refine ⟨ok.len, ok.nd, fun a ha => ?_, fun a ha => ⟨(ok.opn a ha).1, (put_step h).has a (ok.opn a ha).2⟩, fun n a u h1 h2 => ?_, tabs_put ok.tab h⟩
  · have q : a ≠ p := fun z => ok.notMem h (z ▸ ha)
    obtain ⟨u, e⟩ := ok.has a ha
    exact ⟨u, (upd_ne q).trans e⟩
  · have q : a ≠ p := fun z => ok.notMem h (z ▸ List.mem_of_getElem? h1)
    exact (ok.obj n a u h1 h2).step (put_step h) ok (upd_ne q)
/-- a new object of the store -/
def Wd.add (w : Wd) (p : Addr) (o : HO) (u : O) : Wd := ⟨w.mu ++ [p], w.st ++ [some u], upd w.H p o, w.op⟩
theorem add_step {p : Addr} {o : HO} {u : O} (h : w.H p = none) : Step w (w.add p o u) := by
  refine ⟨⟨[p], rfl, fun a ha => by rw [List.mem_singleton.mp ha]; exact h⟩, fun a u e _ _ => ?_, fun n e => ?_, by simp [Wd.add], fun a e => ?_, ⟨[], rfl, by simp⟩⟩
  · show upd w.H p o a = some u
    rw [upd_ne (ne_of_none e h)]; exact e
  · show (w.st ++ [some u])[n]? = some none
    rw [List.getElem?_append_left (List.getElem?_eq_some_iff.mp e).1]; exact e
  · show upd w.H p o a ≠ none
    by_cases q : a = p
    · rw [q, upd_same]; simp
    · rw [upd_ne q]; exact e
theorem add_ok {p : Addr} {o : HO} {u : O} (ok : Ok K w) (h : w.H p = none) (r : RepO K (w.add p o u) p u) : Ok K (w.add p o u) := by
  refine ⟨by simp [Wd.add, ok.len], ?_, fun a ha => ?_, fun a ha => ⟨fun z => ?_, (add_step (u := u) h).has a (ok.opn a ha).2⟩, fun n a x h1 h2 => ?_, tabs_put ok.tab h⟩
  · show (w.mu ++ [p]).Nodup
    rw [List.nodup_append]
    refine ⟨ok.nd, by simp, fun a ha b hb z => ?_⟩
    have e : b = p := by simpa using hb
    exact ok.notMem h (e ▸ z ▸ ha)
  · by_cases q : a = p
    · exact ⟨o, by rw [q]; exact upd_same⟩
    · have ha' : a ∈ w.mu := by
        rcases List.mem_append.mp (show a ∈ w.mu ++ [p] from ha) with z | z
        · exact z
        · exact absurd (by simpa using z) q
      obtain ⟨x, e⟩ := ok.has a ha'
      exact ⟨x, (upd_ne q).trans e⟩
  · have z : a ∈ w.mu ++ [p] := z
    rcases List.mem_append.mp z with z | z
    · exact (ok.opn a ha).1 z
    · rw [List.mem_singleton.mp z] at ha
      exact (ok.opn p ha).2 h
  · have h1 : (w.mu ++ [p])[n]? = some a := h1
    have h2 : (w.st ++ [some u])[n]? = some (some x) := h2
    by_cases hn : n < w.mu.length
    · rw [List.getElem?_append_left hn] at h1
      rw [List.getElem?_append_left (by rw [← ok.len]; exact hn)] at h2
      have q : a ≠ p := fun z => ok.notMem h (z ▸ List.mem_of_getElem? h1)
      exact (ok.obj n a x h1 h2).step (add_step h) ok (upd_ne q)
    · rw [List.getElem?_append_right (by omega)] at h1
      rw [List.getElem?_append_right (by rw [← ok.len]; omega)] at h2
      have e1 : a = p := by
        have := List.mem_of_getElem? h1
        simpa using this
      have e2 : x = u := by
        have := List.mem_of_getElem? h2
        simpa using this
      rw [e1, e2]; exact r
/-- an object of the store written -/
def Wd.wr (w : Wd) (n : Nat) (a : Addr) (o : HO) (u : O) : Wd := ⟨w.mu, w.st.set n (some u), upd w.H a o, w.op⟩
theorem wr_step {n : Nat} {a : Addr} {o : HO} {u u0 : O} (h1 : w.mu[n]? = some a) (h2 : w.st[n]? = some (some u0)) : Step w (w.wr n a o u) := by
  refine ⟨⟨[], by simp [Wd.wr], by simp⟩, fun b x e hl _ => ?_, fun m e => ?_, by simp [Wd.wr], fun b e => ?_, ⟨[], rfl, by simp⟩⟩
  · have q : b ≠ a := fun z => hl ⟨n, u0, z ▸ h1, h2⟩
    exact (upd_ne q).trans e
  · show (w.st.set n (some u))[m]? = some none
    have q : n ≠ m := fun z => by rw [z, e] at h2; cases h2
    rw [List.getElem?_set_ne q]; exact e
  · show upd w.H a o b ≠ none
    by_cases q : b = a
    · rw [q, upd_same]; simp
    · rw [upd_ne q]; exact e
theorem mu_inj (ok : Ok K w) {n m : Nat} {a : Addr} (h1 : w.mu[n]? = some a) (h2 : w.mu[m]? = some a) : n = m := by
  have e1 := List.getElem?_eq_some_iff.mp h1
  have e2 := List.getElem?_eq_some_iff.mp h2
  obtain ⟨l1, q1⟩ := e1
  obtain ⟨l2, q2⟩ := e2
  exact (List.getElem_inj ok.nd).mp (q1.trans q2.symm)
theorem wr_ok {n : Nat} {a : Addr} {o : HO} {u u0 : O} (ok : Ok K w) (h1 : w.mu[n]? = some a) (h2 : w.st[n]? = some (some u0)) (r : RepO K (w.wr n a o u) a u) : Ok K (w.wr n a o u) := by
  refine ⟨by simp [Wd.wr, ok.len], ok.nd, fun b hb => ?_, fun a ha => ⟨(ok.opn a ha).1, (wr_step h1 h2).has a (ok.opn a ha).2⟩, fun m b x e1 e2 => ?_, ok.live_tab ⟨n, _, h1, h2⟩⟩
  · by_cases q : b = a
    · exact ⟨o, by rw [q]; exact upd_same⟩
    · obtain ⟨y, e⟩ := ok.has b hb
      exact ⟨y, (upd_ne q).trans e⟩
  · have e1 : w.mu[m]? = some b := e1
    have e2 : (w.st.set n (some u))[m]? = some (some x) := e2
    by_cases q : m = n
    · subst q
      obtain rfl : a = b := Option.some.inj (h1.symm.trans e1)
      rw [List.getElem?_set_self (List.getElem?_eq_some_iff.mp h2).1] at e2
      obtain rfl : u = x := Option.some.inj (Option.some.inj e2)
      exact r
    · rw [List.getElem?_set_ne (Ne.symm q)] at e2
      have qb : b ≠ a := fun z => q (mu_inj ok e1 (z ▸ h1))
      exact (ok.obj m b x e1 e2).step (wr_step h1 h2) ok (upd_ne qb)
/-- an object of the store is no more changed -/
def Wd.kill (w : Wd) (n : Nat) : Wd := ⟨w.mu, w.st.set n none, w.H, w.op⟩
theorem kill_step {n : Nat} : Step w (w.kill n) := by
  refine ⟨⟨[], by simp [Wd.kill], by simp⟩, fun b x e hl _ => e, fun m e => ?_, by simp [Wd.kill], fun b e => e, ⟨[], rfl, by simp⟩⟩
  show (w.st.set n none)[m]? = some none
  by_cases q : n = m
  · subst q
    exact List.getElem?_set_self (List.getElem?_eq_some_iff.mp e).1
  · rw [List.getElem?_set_ne q]; exact e
theorem kill_ok {n : Nat} (ok : Ok K w) : Ok K (w.kill n) := by
  refine ⟨by simp [Wd.kill, ok.len], ok.nd, ok.has, ok.opn, fun m b x e1 e2 => ?_, ok.tab⟩
  have e2 : (w.st.set n none)[m]? = some (some x) := e2
  have q : n ≠ m := fun z => by
    subst z
    rw [List.getElem?_set_self (by have := (List.getElem?_eq_some_iff.mp e2).1; simpa using this)] at e2
    cases e2
  rw [List.getElem?_set_ne q] at e2
  exact (ok.obj m b x e1 e2).step kill_step ok rfl
theorem kill_live {n : Nat} {a : Addr} (ok : Ok K w) (h1 : w.mu[n]? = some a) : ¬ Live (w.kill n) a := by
  rintro ⟨m, o, e1, e2⟩
  have e1 : w.mu[m]? = some a := e1
  have q := mu_inj ok h1 e1
  subst q
  have e2 : (w.st.set n none)[n]? = some (some o) := e2
  rw [List.getElem?_set_self (by have := (List.getElem?_eq_some_iff.mp e2).1; simpa using this)] at e2
  cases e2
end

section
variable {X : Cx} {W : WX}
/-! ### tests -/
@[simp] def tAnd (a b : Tm) : Tm := fun σ st => (a σ st).bind fun c st1 => if c = true then b σ st1 else .ok false st1
@[simp] def tOr (a b : Tm) : Tm := fun σ st => (a σ st).bind fun c st1 => if c = true then .ok true st1 else b σ st1
@[simp] def tNot (a : Tm) : Tm := fun σ st => (a σ st).bind fun c st1 => .ok (!c) st1
theorem st_sw {e : Expr} {m : Tm} (h : SW X W e m) : ST X W e m := PW.pt h
theorem sw_and1 {a : Expr} {m : Tm} {pos : Pos} (h : ST X W a m) : SW X W (.BoolOp .And [a] pos) m := pw_and1 h
theorem sw_or1 {a : Expr} {m : Tm} {pos : Pos} (h : ST X W a m) : SW X W (.BoolOp .Or [a] pos) m := pw_or1 h
theorem sw_and {a b : Expr} {r : List Expr} {ma mb : Tm} {pos : Pos} (ha : ST X W a ma) (hb : SW X W (.BoolOp .And (b :: r) pos) mb) : SW X W (.BoolOp .And (a :: b :: r) pos) (tAnd ma mb) :=
  pw_imp (pw_and ha hb) fun σV H Q q => by
    obtain ⟨w, σ, rfl, ok, sl, p⟩ := q
    refine ⟨w, σ, rfl, ok, sl, PR.bind ok p fun c st b mu H1 e1 s1 ok1 r1 p1 => ?_⟩
    subst r1
    cases b with
    | true => exact ⟨⟨mu, st, H1, w.op⟩, σ, rfl, ok1, sl.step s1 ok, p1⟩
    | false => exact PR.ret (R := fun _ b c => b = c) ok1 p1 rfl
theorem sw_or {a b : Expr} {r : List Expr} {ma mb : Tm} {pos : Pos} (ha : ST X W a ma) (hb : SW X W (.BoolOp .Or (b :: r) pos) mb) : SW X W (.BoolOp .Or (a :: b :: r) pos) (tOr ma mb) :=
  pw_imp (pw_or ha hb) fun σV H Q q => by
    obtain ⟨w, σ, rfl, ok, sl, p⟩ := q
    refine ⟨w, σ, rfl, ok, sl, PR.bind ok p fun c st b mu H1 e1 s1 ok1 r1 p1 => ?_⟩
    subst r1
    cases b with
    | false => exact ⟨⟨mu, st, H1, w.op⟩, σ, rfl, ok1, sl.step s1 ok, p1⟩
    | true => exact PR.ret (R := fun _ b c => b = c) ok1 p1 rfl
theorem st_not {a : Expr} {ma : Tm} {pos : Pos} (ha : ST X W a ma) : ST X W (.UnaryOp .Not a pos) (tNot ma) :=
  pt_imp (pt_not ha) fun σV H Q q => by
    obtain ⟨w, σ, rfl, ok, sl, p⟩ := q
    refine ⟨w, σ, rfl, ok, sl, PR.bind ok p fun c st b mu H1 e1 s1 ok1 r1 p1 => ?_⟩
    exact PR.ret (R := fun _ b c => b = c) ok1 p1 (by rw [r1])
/-- an expression whose value is a bool, as a test -/
theorem st_val {e : Expr} {m : Em} (h : SE X W e m) (he : ∀ whole, isTrue e X.env whole = (do let v ← whole; standAt e.pos; holding [v] (truthy v)) := by intro _; rfl) : ST X W e (tOf m) :=
  pt_imp (pt_val h he) fun σV H Q q => by
    obtain ⟨w, σ, h1, ok, sl, p⟩ := t_test q
    exact ⟨w, σ, h1, ok, sl, p⟩
/-- and, or, not of bools, as values -/
@[simp] def eAnd (a b : Em) : Em := fun σ st => (a σ st).bind fun d st1 => match d with
  | .bl true => b σ st1
  | .bl false => .ok (.bl false) st1
  | _ => .bad
@[simp] def eOr (a b : Em) : Em := fun σ st => (a σ st).bind fun d st1 => match d with
  | .bl true => .ok (.bl true) st1
  | .bl false => b σ st1
  | _ => .bad
@[simp] def eNot (a : Em) : Em := fun σ st => (a σ st).bind fun d st1 => match d with
  | .bl c => .ok (.bl (!c)) st1
  | _ => .bad
theorem se_one {a : Expr} {m : Em} {op} {pos : Pos} (h : SE X W a m) : SE X W (.BoolOp op [a] pos) m := pe_one h
theorem se_and {a b : Expr} {r : List Expr} {ma mb : Em} {pos : Pos} (ha : SE X W a ma) (hb : SE X W (.BoolOp .And (b :: r) pos) mb) : SE X W (.BoolOp .And (a :: b :: r) pos) (eAnd ma mb) :=
  pe_imp (pe_and ha hb) fun σV H Q q => by
    obtain ⟨w, σ, rfl, ok, sl, p⟩ := q
    refine ⟨w, σ, rfl, ok, sl, PR.bind ok p fun c st b mu H1 e1 s1 ok1 r1 p1 => ?_⟩
    cases r1 with
    | bl c =>
      refine ⟨c, rfl, ?_⟩
      cases c with
      | true => exact ⟨⟨mu, st, H1, w.op⟩, σ, rfl, ok1, sl.step s1 ok, p1⟩
      | false => exact PR.ret (R := Rep X.K) ok1 p1 (.bl false)
    | _ => exact p1.elim
theorem se_or {a b : Expr} {r : List Expr} {ma mb : Em} {pos : Pos} (ha : SE X W a ma) (hb : SE X W (.BoolOp .Or (b :: r) pos) mb) : SE X W (.BoolOp .Or (a :: b :: r) pos) (eOr ma mb) :=
  pe_imp (pe_or ha hb) fun σV H Q q => by
    obtain ⟨w, σ, rfl, ok, sl, p⟩ := q
    refine ⟨w, σ, rfl, ok, sl, PR.bind ok p fun c st b mu H1 e1 s1 ok1 r1 p1 => ?_⟩
    cases r1 with
    | bl c =>
      refine ⟨c, rfl, ?_⟩
      cases c with
      | false => exact ⟨⟨mu, st, H1, w.op⟩, σ, rfl, ok1, sl.step s1 ok, p1⟩
      | true => exact PR.ret (R := Rep X.K) ok1 p1 (.bl true)
    | _ => exact p1.elim
theorem se_not {a : Expr} {ma : Em} {pos : Pos} (ha : SE X W a ma) : SE X W (.UnaryOp .Not a pos) (eNot ma) :=
  pe_imp (pe_not ha) fun σV H Q q => by
    obtain ⟨w, σ, rfl, ok, sl, p⟩ := q
    refine ⟨w, σ, rfl, ok, sl, PR.bind ok p fun c st b mu H1 e1 s1 ok1 r1 p1 => ?_⟩
    cases r1 with
    | bl c => exact ⟨c, rfl, PR.ret (R := Rep X.K) ok1 p1 (.bl _)⟩
    | _ => exact p1.elim
@[simp] def eIf (t : Tm) (a b : Em) : Em := fun σ st => (t σ st).bind fun c st1 => if c = true then a σ st1 else b σ st1
theorem se_if {t a b : Expr} {mt : Tm} {ma mb : Em} {pos : Pos} (ht : ST X W t mt) (ha : SE X W a ma) (hb : SE X W b mb) : SE X W (.IfExp t a b pos) (eIf mt ma mb) :=
  pe_imp (pe_ifExp ht ha hb) fun σV H Q q => by
    obtain ⟨w, σ, rfl, ok, sl, p⟩ := q
    refine ⟨w, σ, rfl, ok, sl, PR.bind ok p fun c st b mu H1 e1 s1 ok1 r1 p1 => ?_⟩
    subst r1
    cases b with
    | true => exact ⟨⟨mu, st, H1, w.op⟩, σ, rfl, ok1, sl.step s1 ok, p1⟩
    | false => exact ⟨⟨mu, st, H1, w.op⟩, σ, rfl, ok1, sl.step s1 ok, p1⟩
/-- a op b op' c -/
@[simp] def eChain (g g' : D → D → Sto → Res D) (a b c : Em) : Em := fun σ st => (a σ st).bind fun x st1 => (b σ st1).bind fun y st2 => (g x y st2).bind fun z st3 => match z with
  | .bl true => (c σ st3).bind fun u st4 => g' y u st4
  | .bl false => .ok (.bl false) st3
  | _ => .bad
theorem t_chain {r r' : R2} {g g' : D → D → Sto → Res D} {a b c : Em} (hg : GOp X.K r g) (hg' : GOp X.K r' g') {σV : L2.St} {H : Hp} {Q : VK} (q : TEm X.K (eChain g g' a b c) W σV H Q) : tChain r r' (TEm X.K a W) (TEm X.K b W) (TEm X.K c W) σV H Q := by
  obtain ⟨w, σ, rfl, ok, sl, p⟩ := q
  refine ⟨w, σ, rfl, ok, sl, PR.bind ok p fun d st x mu H1 e1 s1 ok1 r1 p1 => ?_⟩
  refine ⟨⟨mu, st, H1, w.op⟩, σ, rfl, ok1, sl.step s1 ok, PR.bind ok1 p1 fun d2 st2 y mu2 H2 e2 s2 ok2 r2 p2 => ?_⟩
  refine hg ⟨mu2, st2, H2, w.op⟩ x y d d2 _ _ ok2 (r1.step s2 ok1) r2 (PR.bind ok2 p2 fun d3 st3 z mu3 H3 e3 s3 ok3 r3 p3 => ?_)
  cases r3 with
  | bl k =>
    refine ⟨k, rfl, ?_⟩
    cases k with
    | false => exact PR.ret (R := Rep X.K) ok3 p3 (.bl false)
    | true =>
      refine ⟨⟨mu3, st3, H3, w.op⟩, σ, rfl, ok3, ((sl.step s1 ok).step s2 ok1).step s3 ok2, PR.bind ok3 p3 fun d4 st4 u mu4 H4 e4 s4 ok4 r4 p4 => ?_⟩
      exact hg' ⟨mu4, st4, H4, w.op⟩ y u d2 d4 Q _ ok4 ((r2.step s3 ok2).step s4 ok3) r4 p4
  | _ => exact p3.elim
theorem se_chain {op op' : CmpOp} {r r' : R2} {g g' : D → D → Sto → Res D} {a b c : Expr} {ma mb mc : Em} {pos : Pos} (ho : OpR X (compareOp op) r) (ho' : OpR X (compareOp op') r') (hg : GOp X.K r g) (hg' : GOp X.K r' g') (ha : SE X W a ma) (hb : SE X W b mb) (hc : SE X W c mc)
    (hm : lastMarks [op, op'] [b, c] = false := by with_unfolding_all rfl) : SE X W (.Compare a [op, op'] [b, c] pos) (eChain g g' ma mb mc) :=
  pe_imp (pe_chain ho ho' ha hb hc hm) fun _ _ _ q => t_chain hg hg' q
theorem st_chain {op op' : CmpOp} {r r' : R2} {g g' : D → D → Sto → Res D} {a b c : Expr} {ma mb mc : Em} {pos : Pos} (ho : OpR X (compareOp op) r) (ho' : OpR X (compareOp op') r') (hg : GOp X.K r g) (hg' : GOp X.K r' g') (ha : SE X W a ma) (hb : SE X W b mb) (hc : SE X W c mc)
    (hm : lastMarks [op, op'] [b, c] = false := by with_unfolding_all rfl) : ST X W (.Compare a [op, op'] [b, c] pos) (tOf (eChain g g' ma mb mc)) :=
  pt_imp (pt_chain ho ho' ha hb hc hm) fun σV H Q q => by
    obtain ⟨w, σ, h1, ok, sl, p⟩ := t_test q
    exact t_chain hg hg' ⟨w, σ, h1, ok, sl, p⟩

/-! ### argument lists, displays -/
@[simp] def aNil : Am := fun _ st => .ok [] st
@[simp] def aCons (a : Em) (r : Am) : Am := fun σ st => (a σ st).bind fun d st1 => (r σ st1).bind fun ds st2 => .ok (d :: ds) st2
theorem sa_nil : SA X W [] aNil := pa_imp pa_nil fun σV H Q q => by
  obtain ⟨w, σ, rfl, ok, sl, p⟩ := q
  exact PR.ret (R := Reps X.K) ok p .nil
theorem sa_cons {e : Expr} {es : List Expr} {m : Em} {r : Am} (ha : SE X W e m) (hr : SA X W es r) (hs : starEach (e :: es) X.env = (false, eval e X.env) :: starEach es X.env := by rfl) : SA X W (e :: es) (aCons m r) :=
  pa_imp (pa_cons ha hr hs) fun σV H Q q => by
    obtain ⟨w, σ, rfl, ok, sl, p⟩ := q
    refine ⟨w, σ, rfl, ok, sl, PR.bind ok p fun d st x mu H1 e1 s1 ok1 r1 p1 => ?_⟩
    refine ⟨⟨mu, st, H1, w.op⟩, σ, rfl, ok1, sl.step s1 ok, PR.bind ok1 p1 fun ds st2 xs mu2 H2 e2 s2 ok2 r2 p2 => ?_⟩
    exact PR.ret (R := Reps X.K) ok2 p2 (.cons (r1.step s2 ok1) r2)
abbrev line : Nat := 16777216
theorem line_eq : sizeLine = line := sizeLine_eq
@[simp] def eTup (a : Am) : Em := fun σ st => (a σ st).bind fun ds st1 => if ds.length ≤ line then .ok (.tup ds) st1 else .bad
theorem Ok.notOp {K : Frag} {w : Wd} {p : Addr} (ok : Ok K w) (h : w.H p = none) : p ∉ w.op := fun z => (ok.opn p z).2 h
theorem rep_new_tup {K : Frag} {w : Wd} {p : Addr} {vs : List V} {ds : List D} (ok : Ok K w) (h : w.H p = none) (r : Reps K w vs ds) : Rep K (w.put p (.tup vs)) (.ref p) (.tup ds) :=
  .tup (.inl upd_same) (ok.notOp h) (r.step (put_step h) ok)
theorem rep_new_lst {K : Frag} {w : Wd} {p : Addr} {vs : List V} {ds : List D} (ok : Ok K w) (h : w.H p = none) (r : Reps K w vs ds) : Rep K (w.put p (.lst vs)) (.ref p) (.lst ds) :=
  .lst upd_same (put_live ok h) (ok.notOp h) (r.step (put_step h) ok)
/-- a result whose value is a new thing -/
theorem PR.new {K : Frag} {w : Wd} {d : D} {v : V} {Q : VK} {E : XK} {p : Addr} {o : HO} (ok : Ok K w) (h : w.H p = none) (q : PR K (Rep K) w (.ok d w.st) Q E) (r : Rep K (w.put p o) v d) : Q v (upd w.H p o) :=
  q v w.mu (upd w.H p o) (put_step h) (put_ok ok h) r
theorem se_tup {es : List Expr} {m : Am} {k : Nat} {pos : Pos} (h : SA X W es m) : SE X W (.Tuple es k pos) (eTup m) :=
  pe_imp (pe_tup h) fun σV H Q q => by
    obtain ⟨w, σ, rfl, ok, sl, p⟩ := q
    refine ⟨w, σ, rfl, ok, sl, PR.bind ok p fun ds st xs mu H1 e1 s1 ok1 r1 p1 => ?_⟩
    by_cases hl : ds.length ≤ line
    · rw [if_pos hl] at p1
      exact ⟨by rw [r1.length, line_eq]; exact hl, fun a ha => PR.new (w := ⟨mu, st, H1, w.op⟩) ok1 ha p1 (rep_new_tup ok1 ha r1)⟩
    · rw [if_neg hl] at p1; exact p1.elim
theorem PR.newRef {K : Frag} {w : Wd} {ds : List D} {xs : List V} {Q : VK} {E : XK} {p : Addr} (ok : Ok K w) (h : w.H p = none) (q : PR K (Rep K) w (.ok (.ref w.st.length) (w.st ++ [some (.lst ds)])) Q E) (r : Reps K w xs ds) : Q (.ref p) (upd w.H p (.lst xs)) := by
  refine q (.ref p) (w.mu ++ [p]) (upd w.H p (.lst xs)) (add_step h) (add_ok (u := .lst ds) ok h ⟨xs, upd_same, r.step (add_step h) ok⟩) (.ref ?_)
  show (w.mu ++ [p])[w.st.length]? = some p
  rw [← ok.len, List.getElem?_append_right (Nat.le_refl _)]
  simp
/-- a new list: by value, or (k) in the store -/
def mkL (k : Bool) (ds : List D) (st : Sto) : Res D := if ds.length ≤ line then (match k with
  | true => .ok (.ref st.length) (st ++ [some (.lst ds)])
  | false => .ok (.lst ds) st) else .bad
@[simp] theorem mkL_val (ds : List D) (st : Sto) : mkL false ds st = if ds.length ≤ line then .ok (.lst ds) st else .bad := rfl
@[simp] theorem mkL_ref (ds : List D) (st : Sto) : mkL true ds st = if ds.length ≤ line then .ok (.ref st.length) (st ++ [some (.lst ds)]) else .bad := rfl
theorem mkL_ok {K : Frag} {w : Wd} {k : Bool} {ds : List D} {vs : List V} {Q : VK} {E : XK} (ok : Ok K w) (q : PR K (Rep K) w (mkL k ds w.st) Q E) (r : Reps K w vs ds) : vs.length ≤ sizeLine ∧ ∀ p, w.H p = none → Q (.ref p) (upd w.H p (.lst vs)) := by
  unfold mkL at q
  by_cases hl : ds.length ≤ line
  · rw [if_pos hl] at q
    refine ⟨by rw [r.length, line_eq]; exact hl, fun p h => ?_⟩
    cases k with
    | true => exact PR.newRef ok h q r
    | false => exact PR.new ok h q (rep_new_lst ok h r)
  · rw [if_neg hl] at q; exact q.elim
@[simp] def eLst (k : Bool) (a : Am) : Em := fun σ st => (a σ st).bind fun ds st1 => mkL k ds st1
theorem se_lst {k : Bool} {es : List Expr} {m : Am} {pos : Pos} (h : SA X W es m) : SE X W (.List es pos) (eLst k m) :=
  pe_imp (pe_lst h) fun σV H Q q => by
    obtain ⟨w, σ, rfl, ok, sl, p⟩ := q
    refine ⟨w, σ, rfl, ok, sl, PR.bind ok p fun ds st xs mu H1 e1 s1 ok1 r1 p1 => mkL_ok (w := ⟨mu, st, H1, w.op⟩) ok1 p1 r1⟩
/-- no more changed from here on: the contents by value -/
def frzD (d : D) (st : Sto) : Res D := match d with
  | .ref n => match st[n]? with
    | some (some (.lst ds)) => .ok (.lst ds) (st.set n none)
    | some (some (.ins C fs)) => .ok (.ins C fs) (st.set n none)
    | _ => .bad
  | d => .ok d st
theorem frz_ok {K : Frag} {w : Wd} {v : V} {d : D} {Q : VK} {E : XK} (ok : Ok K w) (r : Rep K w v d) (q : PR K (Rep K) w (frzD d w.st) Q E) : Q v w.H := by
  cases r with
  | @ref a n h =>
    unfold frzD at q
    have nop : a ∉ w.op := fun z => (ok.opn a z).1 (List.mem_of_getElem? h)
    cases e : w.st[n]? with
    | none => simp only [e] at q; exact q.elim
    | some o =>
      cases o with
      | none => simp only [e] at q; exact q.elim
      | some o =>
        have ro := ok.obj n a o h e
        cases o with
        | lst ds =>
          simp only [e] at q
          obtain ⟨vs, h1, h2⟩ := ro
          exact q (.ref a) w.mu w.H kill_step (kill_ok ok) (.lst h1 (kill_live ok h) nop (h2.step (kill_step (n := n)) ok))
        | ins C fs =>
          simp only [e] at q
          obtain ⟨dx, fv, h1, h2, hc⟩ := ro
          exact q (.ref a) w.mu w.H kill_step (kill_ok ok) (.ins h1 (kill_live ok h) nop (h2.step (kill_step (n := n)) ok) hc)
  | non => exact PR.ret (R := Rep K) ok q .non
  | bl b => exact PR.ret (R := Rep K) ok q (.bl b)
  | int i => exact PR.ret (R := Rep K) ok q (.int i)
  | str z => exact PR.ret (R := Rep K) ok q (.str z)
  | ty n => exact PR.ret (R := Rep K) ok q (.ty n)
  | tup h ho hs => exact PR.ret (R := Rep K) ok q (.tup h ho hs)
  | ktup h hs => exact PR.ret (R := Rep K) ok q (.ktup h hs)
  | lst h hl ho hs => exact PR.ret (R := Rep K) ok q (.lst h hl ho hs)
  | scr h hl ho hs => exact PR.ret (R := Rep K) ok q (.scr h hl ho hs)
  | kscr h ht hs => exact PR.ret (R := Rep K) ok q (.kscr h ht hs)
  | ins h hl ho hs hc => exact PR.ret (R := Rep K) ok q (.ins h hl ho hs hc)
  | exo h h2 hl hl2 ho ho2 hs hc => exact PR.ret (R := Rep K) ok q (.exo h h2 hl hl2 ho ho2 hs hc)

/-! ### statements -/
@[simp] def RS.seq (r : RS) (f : Sl → Sto → RS) : RS := match r with
  | .nx σ st => f σ st
  | .rt d st => .rt d st
  | .bk σ st => .bk σ st
  | .ct σ st => .ct σ st
  | .exc x σ st => .exc x σ st
  | .bad => .bad
@[simp] def Res.toRS {α : Type} (r : Res α) (σ : Sl) (f : α → Sto → RS) : RS := match r with
  | .ok a st => f a st
  | .exc x st => .exc x σ st
  | .bad => .bad
@[simp] def sNil : Sm := fun σ st => .nx σ st
@[simp] def sSeq (a b : Sm) : Sm := fun σ st => (a σ st).seq b
theorem PSr.seq {K : Frag} {w : Wd} {r : RS} {f : Sl → Sto → RS} {D : Ends} {W : WX} {nx : L2.St → Hp → Prop} (ok : Ok K w) (h : PSr K w (r.seq f) D W)
    (k : ∀ σ st σV mu H, r = .nx σ st → Step w ⟨mu, st, H, w.op⟩ → Ok K ⟨mu, st, H, w.op⟩ → Slots K ⟨mu, st, H, w.op⟩ σ σV → PSr K ⟨mu, st, H, w.op⟩ (f σ st) D W → nx σV H) : PSr K w r { D with nx := nx } W := by
  cases r with
  | nx σ st => exact fun σV mu H t o q => k σ st σV mu H rfl t o q (PSr.step t ok h)
  | rt d st => exact h
  | bk σ st => exact h
  | ct σ st => exact h
  | exc x σ st => exact h
  | bad => exact h
theorem PSr.ret {K : Frag} {w : Wd} {σ : Sl} {σV : L2.St} {D : Ends} {W : WX} (ok : Ok K w) (h : PSr K w (.nx σ w.st) D W) (sl : Slots K w σ σV) : D.nx σV w.H := by
  obtain ⟨mu, st, H, op⟩ := w
  exact h σV mu H (.refl _) ok sl
/-- from a statement's result to an expression's -/
theorem PSr.toR {α β : Type} {K : Frag} {w : Wd} {R : Wd → β → α → Prop} {r : Res α} {f : α → Sto → RS} {σ : Sl} {σV : L2.St} {D : Ends} {W : WX} {Q : β → Hp → Prop} (ok : Ok K w) (sl : Slots K w σ σV) (h : PSr K w (r.toRS σ f) D W)
    (k : ∀ d st b mu H, r = .ok d st → Step w ⟨mu, st, H, w.op⟩ → Ok K ⟨mu, st, H, w.op⟩ → R ⟨mu, st, H, w.op⟩ b d → PSr K ⟨mu, st, H, w.op⟩ (f d st) D W → Q b H) : PR K R w r Q (xk W σV) := by
  cases r with
  | ok d st => exact fun b mu H t o q => k d st b mu H rfl t o q (PSr.step t ok h)
  | exc x st => exact fun c dd mu H t o q => h c dd σV mu H t o (sl.step t ok) q
  | bad => exact h
theorem sss_nil : SSs X W [] sNil := pss_imp pss_nil fun D σV H q => by
  obtain ⟨w, σ, rfl, ok, sl, p⟩ := q
  exact PSr.ret ok p sl
theorem sss_cons {s : Stmt} {r : List Stmt} {a b : Sm} (h1 : SS X W s a) (h2 : SSs X W r b) : SSs X W (s :: r) (sSeq a b) :=
  pss_imp (pss_cons h1 h2) fun D σV H q => by
    obtain ⟨w, σ, rfl, ok, sl, p⟩ := q
    exact ⟨w, σ, rfl, ok, sl, PSr.seq ok p fun σ' st' σV' mu H1 e1 s1 ok1 sl1 p1 => ⟨⟨mu, st', H1, w.op⟩, σ', rfl, ok1, sl1, p1⟩⟩
theorem sss_one {s : Stmt} {a : Sm} (h1 : SS X W s a) : SSs X W [s] a := pss_one h1
theorem ss_pass {pos : Pos} : SS X W (.Pass pos) sNil := ps_imp ps_pass fun D σV H q => by
  obtain ⟨w, σ, rfl, ok, sl, p⟩ := q
  exact PSr.ret ok p sl
@[simp] def sBreak : Sm := fun σ st => .bk σ st
@[simp] def sCont : Sm := fun σ st => .ct σ st
theorem ss_break {pos : Pos} : SS X W (.Break pos) sBreak := ps_imp ps_break fun D σV H q => by
  obtain ⟨w, σ, rfl, ok, sl, p⟩ := q
  exact p σV w.mu w.H (.refl _) ok sl
theorem ss_cont {pos : Pos} : SS X W (.Continue pos) sCont := ps_imp ps_continue fun D σV H q => by
  obtain ⟨w, σ, rfl, ok, sl, p⟩ := q
  exact p σV w.mu w.H (.refl _) ok sl
@[simp] def sRet (m : Em) : Sm := fun σ st => (m σ st).toRS σ fun d st1 => .rt d st1
theorem ss_ret {e : Expr} {m : Em} {pos : Pos} (h : SE X W e m) : SS X W (.Return (some e) pos) (sRet m) := ps_imp (ps_ret h) fun D σV H q => by
  obtain ⟨w, σ, rfl, ok, sl, p⟩ := q
  exact ⟨w, σ, rfl, ok, sl, PSr.toR ok sl p fun d st v mu H1 e1 s1 ok1 r1 p1 => p1 v mu H1 (.refl _) ok1 r1⟩
@[simp] def sRetN : Sm := fun σ st => .rt .non st
theorem ss_retN {pos : Pos} : SS X W (.Return none pos) sRetN := ps_imp ps_retN fun D σV H q => by
  obtain ⟨w, σ, rfl, ok, sl, p⟩ := q
  exact p .non w.mu w.H (.refl _) ok .non
@[simp] def sExpr (m : Em) : Sm := fun σ st => (m σ st).toRS σ fun _ st1 => .nx σ st1
theorem ss_expr {e : Expr} {m : Em} {pos : Pos} (h : SE X W e m) (hs : swapsWith e none pos.line X.env = pure false := by rfl) : SS X W (.Expr e pos) (sExpr m) := ps_imp (ps_expr h hs) fun D σV H q => by
  obtain ⟨w, σ, rfl, ok, sl, p⟩ := q
  exact ⟨w, σ, rfl, ok, sl, PSr.toR ok sl p fun d st v mu H1 e1 s1 ok1 r1 p1 => PSr.ret ok1 p1 (sl.step s1 ok)⟩
@[simp] def sIf (t : Tm) (a b : Sm) : Sm := fun σ st => (t σ st).toRS σ fun c st1 => if c = true then a σ st1 else b σ st1
theorem ss_if {t : Expr} {a b : List Stmt} {mt : Tm} {ma mb : Sm} {pos : Pos} (ht : ST X W t mt) (ha : SSs X W a ma) (hb : SSs X W b mb) : SS X W (.If t a b pos) (sIf mt ma mb) := ps_imp (ps_if ht ha hb) fun D σV H q => by
  obtain ⟨w, σ, rfl, ok, sl, p⟩ := q
  refine ⟨w, σ, rfl, ok, sl, PSr.toR ok sl p fun c st b mu H1 e1 s1 ok1 r1 p1 => ?_⟩
  subst r1
  cases b with
  | true => exact ⟨⟨mu, st, H1, w.op⟩, σ, rfl, ok1, sl.step s1 ok, p1⟩
  | false => exact ⟨⟨mu, st, H1, w.op⟩, σ, rfl, ok1, sl.step s1 ok, p1⟩
@[simp] def sSet (i : Nat) (m : Em) : Sm := fun σ st => (m σ st).toRS σ fun d st1 => .nx (σ.set i (some d)) st1
theorem ss_set {i : Nat} {x : Str} {e : Expr} {m : Em} {pos pos' : Pos} (hN : X.N.Nodup) (hi : X.N[i]? = some x) (hx : Loc X.env.scope x) (he : SE X W e m) (hs : swapsWith e (some (.Name x pos')) pos.line X.env = pure false := by rfl) (hf : X.fn x = true ∨ X.env.scope.names.lookup x = some .local := by first | exact .inl rfl | exact .inr rfl | assumption) :
    SS X W (.Assign [.Name x pos'] e pos) (sSet i m) := ps_imp (ps_set hN hi hx he hs hf) fun D σV H q => by
  obtain ⟨w, σ, rfl, ok, sl, p⟩ := q
  refine ⟨w, σ, rfl, ok, sl, PSr.toR ok sl p fun d st v mu H1 e1 s1 ok1 r1 p1 => ?_⟩
  exact PSr.ret (w := ⟨mu, st, H1, w.op⟩) ok1 p1 ((sl.step s1 ok).set r1 i)
end
end Sim

set_option Elab.async false
set_option linter.all false
set_option maxRecDepth 100000
set_option maxHeartbeats 4000000
/-! operators, defs and calls -/
namespace Sim
open PySem PySem.Spec PyProof.Rows L2

/-! ### ints -/
def iOp (f : Int → Int → D) : D → D → Sto → Res D := fun x y st => match x, y with
  | .int i, .int j => .ok (f i j) st
  | _, _ => .bad
def iOpC (c : Int → Int → Bool) (f : Int → Int → D) : D → D → Sto → Res D := fun x y st => match x, y with
  | .int i, .int j => if c i j = true then .ok (f i j) st else .bad
  | _, _ => .bad
@[simp] theorem iOp_int (f : Int → Int → D) (i j : Int) (st : Sto) : iOp f (.int i) (.int j) st = .ok (f i j) st := rfl
@[simp] theorem iOpC_int (c : Int → Int → Bool) (f : Int → Int → D) (i j : Int) (st : Sto) : iOpC c f (.int i) (.int j) st = if c i j = true then .ok (f i j) st else .bad := rfl
section
variable {K : Frag}
theorem gop_I0 {f : Int → Int → D} {g : Int → Int → V} (h : ∀ w i j, Rep K w (g i j) (f i j)) : GOp K (rI0 g) (iOp f) := by
  intro w x y dx dy Q E ok rx ry p
  cases rx with
  | int i =>
    cases ry with
    | int j => exact ⟨i, j, rfl, rfl, PR.ret (R := Rep K) ok p (h w i j)⟩
    | _ => exact p.elim
  | _ => exact p.elim
theorem gop_IC {c : Int → Int → Bool} {C : Int → Int → Prop} {f : Int → Int → D} {g : Int → Int → V} (hc : ∀ i j, c i j = true → C i j) (h : ∀ w i j, Rep K w (g i j) (f i j)) : GOp K (rI C g) (iOpC c f) := by
  intro w x y dx dy Q E ok rx ry p
  cases rx with
  | int i =>
    cases ry with
    | int j =>
      rw [iOpC_int] at p
      by_cases hh : c i j = true
      · rw [if_pos hh] at p
        exact ⟨i, j, rfl, rfl, hc i j hh, PR.ret (R := Rep K) ok p (h w i j)⟩
      · rw [if_neg hh] at p; exact p.elim
    | _ => exact p.elim
  | _ => exact p.elim
def mulOk (i j : Int) : Bool := decide (i.natAbs < 2 ^ 64) || decide (j.natAbs < 2 ^ 64) || decide (i.natAbs.log2 + j.natAbs.log2 < 100000000)
theorem mulOk_ok {i j : Int} (h : mulOk i j = true) : IntMulOk i j := by
  unfold mulOk at h
  simp only [Bool.or_eq_true, decide_eq_true_eq] at h
  rcases h with (h | h) | h
  · exact .of_left (intBits_le_64 (by omega) (by omega))
  · exact .of_right (intBits_le_64 (by omega) (by omega))
  · have b : ∀ x : Int, Builtin.Int.intBits x ≤ x.natAbs.log2 + 1 := fun x => by
      unfold Builtin.Int.intBits
      split <;> omega
    have h1 := b i
    have h2 := b j
    have e : bitsLine = 134217728 := by decide
    unfold IntMulOk
    intro z
    rw [Bool.and_eq_true] at z
    have z2 := z.2
    unfold Builtin.Int.intTooBig at z2
    have z3 := of_decide_eq_true z2
    rw [e] at z3
    omega
def divOk (_ j : Int) : Bool := decide (j ≠ 0) && decide (j.natAbs.log2 < 9000)
def powOk (i j : Int) : Bool := decide (0 ≤ j) && (decide (j ≤ 1000000) && decide (i.natAbs < 2 ^ 64))
def subI := iOp fun i j => .int (i - j)
def mulI := iOpC mulOk fun i j => .int (i * j)
def fdivI := iOpC divOk fun i j => .int (i.fdiv j)
def modI := iOpC (fun _ j => decide (j ≠ 0)) fun i j => .int (i.fmod j)
def powI := iOpC powOk fun i j => .int (i ^ j.toNat)
def shlI := iOpC powOk fun i j => .int (i * 2 ^ j.toNat)
def ltI := iOp fun i j => .bl (decide (i < j))
def leI := iOp fun i j => .bl (decide (i ≤ j))
def gtI := iOp fun i j => .bl (decide (j < i))
def geI := iOp fun i j => .bl (decide (j ≤ i))
/-- ints, texts -/
def addD : D → D → Sto → Res D := fun x y st => match x, y with
  | .int i, .int j => .ok (.int (i + j)) st
  | .str i, .str j => if i.length + j.length ≤ line then .ok (.str (i ++ j)) st else .bad
  | _, _ => .bad
@[simp] theorem addD_int (i j : Int) (st : Sto) : addD (.int i) (.int j) st = .ok (.int (i + j)) st := rfl
@[simp] theorem addD_str (i j : Str) (st : Sto) : addD (.str i) (.str j) st = if i.length + j.length ≤ line then .ok (.str (i ++ j)) st else .bad := rfl
section
variable {X : Cx} {W : WX} {a b : Expr} {ma mb : Em} {pos : Pos}
theorem op_divR : OpR X (binaryOp .FloorDiv) (rI (fun _ j => j ≠ 0 ∧ j.natAbs.log2 < 9000) fun i j => .int (i.fdiv j)) := opI fun i j _ _ _ _ _ hc q => floordiv_int hc.1 q (.inl (PyProof.noPylong_of_log2 hc.2))
theorem op_mulI : OpR X (binaryOp .Mult) (rI IntMulOk fun i j => .int (i * j)) := opI fun _ _ _ _ _ _ _ hc q => mul_int q hc
theorem se_add (ha : SE X W a ma) (hb : SE X W b mb) : SE X W (.BinOp a .Add b pos) (eBin addD ma mb) := se_bin (op_add.or op_add_str) (by
  intro w x y dx dy Q E ok rx ry p
  cases rx with
  | int i =>
    cases ry with
    | int j => exact .inl ⟨i, j, rfl, rfl, PR.ret (R := Rep X.K) ok p (.int _)⟩
    | _ => exact p.elim
  | str i =>
    cases ry with
    | str j =>
      rw [addD_str] at p
      by_cases hh : i.length + j.length ≤ line
      · rw [if_pos hh] at p
        exact .inr ⟨i, j, rfl, rfl, by rw [line_eq]; exact hh, PR.ret (R := Rep X.K) ok p (.str _)⟩
      · rw [if_neg hh] at p; exact p.elim
    | _ => exact p.elim
  | _ => exact p.elim) ha hb
theorem se_sub (ha : SE X W a ma) (hb : SE X W b mb) : SE X W (.BinOp a .Sub b pos) (eBin subI ma mb) := se_bin op_sub (gop_I0 fun _ _ _ => .int _) ha hb
theorem se_mul (ha : SE X W a ma) (hb : SE X W b mb) : SE X W (.BinOp a .Mult b pos) (eBin mulI ma mb) := se_bin op_mulI (gop_IC (fun _ _ => mulOk_ok) fun _ _ _ => .int _) ha hb
theorem se_fdiv (ha : SE X W a ma) (hb : SE X W b mb) : SE X W (.BinOp a .FloorDiv b pos) (eBin fdivI ma mb) := se_bin op_divR (gop_IC (fun _ _ h => by
  unfold divOk at h
  rw [Bool.and_eq_true, decide_eq_true_eq, decide_eq_true_eq] at h
  exact h) fun _ _ _ => .int _) ha hb
theorem se_mod (ha : SE X W a ma) (hb : SE X W b mb) : SE X W (.BinOp a .Mod b pos) (eBin modI ma mb) := se_bin op_modN (gop_IC (fun _ _ h => of_decide_eq_true h) fun _ _ _ => .int _) ha hb
theorem powOk_ok {i j : Int} (h : powOk i j = true) : CPow i j := by
  unfold powOk at h
  simp only [Bool.and_eq_true, decide_eq_true_eq] at h
  exact ⟨h.1, h.2.1, h.2.2⟩
theorem se_pow (ha : SE X W a ma) (hb : SE X W b mb) : SE X W (.BinOp a .Pow b pos) (eBin powI ma mb) := se_bin op_pow (gop_IC (fun _ _ => powOk_ok) fun _ _ _ => .int _) ha hb
theorem se_shl (ha : SE X W a ma) (hb : SE X W b mb) : SE X W (.BinOp a .LShift b pos) (eBin shlI ma mb) := se_bin op_shl (gop_IC (fun _ _ => powOk_ok) fun _ _ _ => .int _) ha hb
theorem se_lt (ha : SE X W a ma) (hb : SE X W b mb) : SE X W (.Compare a [.Lt] [b] pos) (eBin ltI ma mb) := se_cmp op_lt (gop_I0 fun _ _ _ => .bl _) ha hb (nomark _)
theorem se_le (ha : SE X W a ma) (hb : SE X W b mb) : SE X W (.Compare a [.LtE] [b] pos) (eBin leI ma mb) := se_cmp op_le (gop_I0 fun _ _ _ => .bl _) ha hb (nomark _)
theorem se_gt (ha : SE X W a ma) (hb : SE X W b mb) : SE X W (.Compare a [.Gt] [b] pos) (eBin gtI ma mb) := se_cmp op_gt (gop_I0 fun _ _ _ => .bl _) ha hb (nomark _)
theorem se_ge (ha : SE X W a ma) (hb : SE X W b mb) : SE X W (.Compare a [.GtE] [b] pos) (eBin geI ma mb) := se_cmp op_ge (gop_I0 fun _ _ _ => .bl _) ha hb (nomark _)
theorem st_lt (ha : SE X W a ma) (hb : SE X W b mb) : ST X W (.Compare a [.Lt] [b] pos) (tOf (eBin ltI ma mb)) := st_cmp op_lt (gop_I0 fun _ _ _ => .bl _) ha hb (nomark _)
theorem st_le (ha : SE X W a ma) (hb : SE X W b mb) : ST X W (.Compare a [.LtE] [b] pos) (tOf (eBin leI ma mb)) := st_cmp op_le (gop_I0 fun _ _ _ => .bl _) ha hb (nomark _)
theorem st_gt (ha : SE X W a ma) (hb : SE X W b mb) : ST X W (.Compare a [.Gt] [b] pos) (tOf (eBin gtI ma mb)) := st_cmp op_gt (gop_I0 fun _ _ _ => .bl _) ha hb (nomark _)
theorem st_ge (ha : SE X W a ma) (hb : SE X W b mb) : ST X W (.Compare a [.GtE] [b] pos) (tOf (eBin geI ma mb)) := st_cmp op_ge (gop_I0 fun _ _ _ => .bl _) ha hb (nomark _)
theorem gop_lt : GOp X.K (rI0 fun i j => .bl (decide (i < j))) ltI := gop_I0 fun _ _ _ => .bl _
theorem gop_le : GOp X.K (rI0 fun i j => .bl (decide (i ≤ j))) leI := gop_I0 fun _ _ _ => .bl _
theorem gop_gt : GOp X.K (rI0 fun i j => .bl (decide (j < i))) gtI := gop_I0 fun _ _ _ => .bl _
theorem gop_ge : GOp X.K (rI0 fun i j => .bl (decide (j ≤ i))) geI := gop_I0 fun _ _ _ => .bl _
def negI : D → Sto → Res D := fun x st => match x with
  | .int i => .ok (.int (-i)) st
  | _ => .bad
@[simp] theorem negI_int (i : Int) (st : Sto) : negI (.int i) st = .ok (.int (-i)) st := rfl
theorem se_neg (ha : SE X W a ma) : SE X W (.UnaryOp .USub a pos) (eUn negI ma) := se_un un_neg (by
  intro w x dx Q E ok rx p
  cases rx with
  | int i => exact ⟨i, rfl, PR.ret (R := Rep X.K) ok p (.int _)⟩
  | _ => exact p.elim) ha
def isN : D → D → Sto → Res D := fun x y st => match x, y with
  | .non, .non => .ok (.bl true) st
  | _, .non => .ok (.bl false) st
  | _, _ => .bad
def notN : D → D → Sto → Res D := fun x y st => match x, y with
  | .non, .non => .ok (.bl false) st
  | _, .non => .ok (.bl true) st
  | _, _ => .bad
theorem gop_isN : GOp X.K (fun x y H Q => y = .non ∧ Q (.bl (decide (x = .non))) H) isN := by
  intro w x y dx dy Q E ok rx ry p
  cases ry with
  | non => cases rx <;> exact ⟨rfl, PR.ret (R := Rep X.K) ok p (by simp; exact .bl _)⟩
  | _ => cases rx <;> exact p.elim
theorem gop_notN : GOp X.K (fun x y H Q => y = .non ∧ Q (.bl (!decide (x = .non))) H) notN := by
  intro w x y dx dy Q E ok rx ry p
  cases ry with
  | non => cases rx <;> exact ⟨rfl, PR.ret (R := Rep X.K) ok p (by simp; exact .bl _)⟩
  | _ => cases rx <;> exact p.elim
theorem se_isN (ha : SE X W a ma) (hb : SE X W b mb) : SE X W (.Compare a [.Is] [b] pos) (eBin isN ma mb) := se_cmp op_isN gop_isN ha hb (nomark _)
theorem se_notN (ha : SE X W a ma) (hb : SE X W b mb) : SE X W (.Compare a [.IsNot] [b] pos) (eBin notN ma mb) := se_cmp op_notN gop_notN ha hb (nomark _)
theorem st_isN (ha : SE X W a ma) (hb : SE X W b mb) : ST X W (.Compare a [.Is] [b] pos) (tOf (eBin isN ma mb)) := st_cmp op_isN gop_isN ha hb (nomark _)
theorem st_notN (ha : SE X W a ma) (hb : SE X W b mb) : ST X W (.Compare a [.IsNot] [b] pos) (tOf (eBin notN ma mb)) := st_cmp op_notN gop_notN ha hb (nomark _)
end
end

/-! ### == of data -/
mutual
def D.py : D → Option PyData
  | .non => some .none
  | .bl b => some (.bool b)
  | .int i => some (.int i)
  | .str s => some (.str s)
  | .tup ds => (D.pys ds).map .tuple
  | .lst ds => (D.pys ds).map .list
  | .ty _ => none
  | .ins _ _ => none
  | .ref _ => none
  | .scr _ => none
def D.pys : List D → Option (List PyData)
  | [] => some []
  | d :: ds => match D.py d, D.pys ds with
    | some a, some b => some (a :: b)
    | _, _ => none
end
def pyOf (d : D) (st : Sto) : Option PyData := match d with
  | .ref n => match st[n]? with
    | some (some (.lst ds)) => (D.pys ds).map .list
    | _ => none
  | d => d.py
section
variable {K : Frag} {w : Wd}
mutual
theorem Rep.dp : ∀ {v : V} {d : D} {p : PyData}, Rep K w v d → d.py = some p → Dp K w.H v p
  | _, _, _, .non, e => by simp [D.py] at e; subst e; exact .non
  | _, _, _, .bl b, e => by simp [D.py] at e; subst e; exact .bl b
  | _, _, _, .int i, e => by simp [D.py] at e; subst e; exact .int i
  | _, _, _, .str s, e => by simp [D.py] at e; subst e; exact .str s
  | _, _, _, .ty n, e => by simp [D.py] at e
  | _, _, _, .tup h ho hs, e => by
    simp only [D.py, Option.map_eq_some_iff] at e
    obtain ⟨ps, e1, e2⟩ := e
    subst e2
    exact .tup (.inl h) (Reps.dp hs e1)
  | _, _, _, .ktup h hs, e => by
    simp only [D.py, Option.map_eq_some_iff] at e
    obtain ⟨ps, e1, e2⟩ := e
    subst e2
    exact .tup (h _) (Reps.dp hs e1)
  | _, _, _, .lst h hl ho hs, e => by
    simp only [D.py, Option.map_eq_some_iff] at e
    obtain ⟨ps, e1, e2⟩ := e
    subst e2
    exact .lst (.inl (.inl h)) (Reps.dp hs e1)
  | _, _, _, .scr _ _ _ _, e => by simp [D.py] at e
  | _, _, _, .kscr _ _ _, e => by simp [D.py] at e
  | _, _, _, .ins _ _ _ _ _, e => by simp [D.py] at e
  | _, _, _, .exo _ _ _ _ _ _ _ _, e => by simp [D.py] at e
  | _, _, _, .ref _, e => by simp [D.py] at e
theorem Reps.dp : ∀ {vs : List V} {ds : List D} {ps : List PyData}, Reps K w vs ds → D.pys ds = some ps → DpAll K w.H vs ps
  | _, _, _, .nil, e => by simp [D.pys] at e; subst e; exact .nil
  | _, _, _, @Reps.cons _ _ _ d _ ds r t, e => by
    simp only [D.pys] at e
    cases e1 : d.py with
    | none => rw [e1] at e; cases e
    | some a =>
      cases e2 : D.pys ds with
      | none => rw [e1, e2] at e; cases e
      | some b =>
        rw [e1, e2] at e
        cases e
        exact .cons (Rep.dp r e1) (Reps.dp t e2)
end
theorem Rep.dpOf {v : V} {d : D} {p : PyData} (ok : Ok K w) (r : Rep K w v d) (e : pyOf d w.st = some p) : Dp K w.H v p := by
  cases r with
  | @ref a n h =>
    unfold pyOf at e
    cases q : w.st[n]? with
    | none => simp only [q] at e; cases e
    | some o =>
      cases o with
      | none => simp only [q] at e; cases e
      | some o =>
        cases o with
        | ins C fs => simp only [q] at e; cases e
        | lst ds =>
          simp only [q, Option.map_eq_some_iff] at e
          obtain ⟨ps, e1, e2⟩ := e
          subst e2
          obtain ⟨vs, h1, h2⟩ := ok.obj n a _ h q
          exact .lst (.inl (.inl h1)) (h2.dp e1)
  | non => exact Rep.dp .non e
  | bl b => exact Rep.dp (.bl b) e
  | int i => exact Rep.dp (.int i) e
  | str z => exact Rep.dp (.str z) e
  | ty n => exact Rep.dp (.ty n) e
  | tup h ho hs => exact Rep.dp (.tup h ho hs) e
  | ktup h hs => exact Rep.dp (.ktup h hs) e
  | lst h hl ho hs => exact Rep.dp (.lst h hl ho hs) e
  | scr h hl ho hs => exact Rep.dp (.scr h hl ho hs) e
  | kscr h ht hs => exact Rep.dp (.kscr h ht hs) e
  | ins h hl ho hs hc => exact Rep.dp (.ins h hl ho hs hc) e
  | exo h h2 hl hl2 ho ho2 hs hc => exact Rep.dp (.exo h h2 hl hl2 ho ho2 hs hc) e
end
def eqD : D → D → Sto → Res D := fun x y st => match pyOf x st, pyOf y st with
  | some a, some b => if (SeqAt.shaped a && SeqAt.shaped b) = true then .ok (.bl (PyData.eqv a b)) st else .bad
  | _, _ => .bad
def neD : D → D → Sto → Res D := fun x y st => match pyOf x st, pyOf y st with
  | some a, some b => if (SeqAt.shaped a && SeqAt.shaped b) = true then .ok (.bl (!PyData.eqv a b)) st else .bad
  | _, _ => .bad
section
variable {X : Cx} {W : WX} {a b : Expr} {ma mb : Em} {pos : Pos}
theorem gop_eq : GOp X.K (rEqD X.K) eqD := by
  intro w x y dx dy Q E ok rx ry p
  unfold eqD at p
  cases e1 : pyOf dx w.st with
  | none => rw [e1] at p; exact p.elim
  | some a =>
    cases e2 : pyOf dy w.st with
    | none => rw [e1, e2] at p; exact p.elim
    | some b =>
      rw [e1, e2] at p
      by_cases hs : (SeqAt.shaped a && SeqAt.shaped b) = true
      · simp only [if_pos hs] at p
        obtain ⟨h1, h2⟩ := Bool.and_eq_true_iff.mp hs
        exact ⟨a, b, rx.dpOf ok e1, ry.dpOf ok e2, h1, h2, PR.ret (R := Rep X.K) ok p (.bl _)⟩
      · simp only [if_neg hs] at p; exact p.elim
theorem gop_ne : GOp X.K (rNeD X.K) neD := by
  intro w x y dx dy Q E ok rx ry p
  unfold neD at p
  cases e1 : pyOf dx w.st with
  | none => rw [e1] at p; exact p.elim
  | some a =>
    cases e2 : pyOf dy w.st with
    | none => rw [e1, e2] at p; exact p.elim
    | some b =>
      rw [e1, e2] at p
      by_cases hs : (SeqAt.shaped a && SeqAt.shaped b) = true
      · simp only [if_pos hs] at p
        obtain ⟨h1, h2⟩ := Bool.and_eq_true_iff.mp hs
        exact ⟨a, b, rx.dpOf ok e1, ry.dpOf ok e2, h1, h2, PR.ret (R := Rep X.K) ok p (.bl _)⟩
      · simp only [if_neg hs] at p; exact p.elim
variable {k : Nat}
theorem se_eq (hr : Room k X.A) (ha : SE X W a ma) (hb : SE X W b mb) : SE X W (.Compare a [.Eq] [b] pos) (eBin eqD ma mb) := se_cmp (op_eqD hr.units) gop_eq ha hb (nomark _)
theorem se_ne (hr : Room k X.A) (ha : SE X W a ma) (hb : SE X W b mb) : SE X W (.Compare a [.NotEq] [b] pos) (eBin neD ma mb) := se_cmp (op_neD hr.units) gop_ne ha hb (nomark _)
theorem st_eq (hr : Room k X.A) (ha : SE X W a ma) (hb : SE X W b mb) : ST X W (.Compare a [.Eq] [b] pos) (tOf (eBin eqD ma mb)) := st_cmp (op_eqD hr.units) gop_eq ha hb (nomark _)
theorem st_ne (hr : Room k X.A) (ha : SE X W a ma) (hb : SE X W b mb) : ST X W (.Compare a [.NotEq] [b] pos) (tOf (eBin neD ma mb)) := st_cmp (op_neD hr.units) gop_ne ha hb (nomark _)
end

/-! ### defs -/
/-- at a def's end: what it made in the store and does not hand out is forgotten -/
def finR (n : Nat) (d : D) (st : Sto) : Res D := if st.length ≤ n then .ok d st else if (D.und n d && stoBelow n (st.take n)) = true then .ok d (st.take n) else .ok d st
def finX (n : Nat) (x : Exn) (st : Sto) : Res D := if (D.undF n x.fs && stoBelow n (st.take n)) = true then .exc x (st.take n) else .exc x st
def runDef (n : Nat) (body : Sm) (args : List D) (st : Sto) : Res D := match body (args.map some ++ List.replicate (n - args.length) none) st with
  | .nx _ st' => finR st.length .non st'
  | .rt d st' => finR st.length d st'
  | .exc x _ st' => finX st.length x st'
  | _ => .bad
section
variable {K : Frag} {w w' : Wd}
def Wd.cut (w : Wd) (n : Nat) : Wd := ⟨w.mu.take n, w.st.take n, w.H, w.op⟩
theorem cut_live {n : Nat} {a : Addr} (h : Live (w.cut n) a) : Live w a := by
  obtain ⟨m, o, h1, h2⟩ := h
  have h1 : (w.mu.take n)[m]? = some a := h1
  have h2 : (w.st.take n)[m]? = some (some o) := h2
  rw [List.getElem?_take] at h1 h2
  split at h1
  · rename_i hm
    rw [if_pos hm] at h2
    exact ⟨m, o, h1, h2⟩
  · cases h1
mutual
theorem Rep.cut {n : Nat} : ∀ {v : V} {d : D}, Rep K w v d → D.und n d = true → Rep K (w.cut n) v d
  | _, _, .non, _ => .non
  | _, _, .bl b, _ => .bl b
  | _, _, .int i, _ => .int i
  | _, _, .str s, _ => .str s
  | _, _, .ty n, _ => .ty n
  | _, _, .tup h ho hs, e => .tup h ho (Reps.cut hs (by simpa [D.und] using e))
  | _, _, .ktup h hs, e => .ktup h (Reps.cut hs (by simpa [D.und] using e))
  | _, _, .lst h hl ho hs, e => .lst h (fun z => hl (cut_live z)) ho (Reps.cut hs (by simpa [D.und] using e))
  | _, _, .kscr h ht hs, e => .kscr h ht (Reps.cut hs (by simpa [D.und] using e))
  | _, _, .scr h hl ho hs, e => .scr h (fun z => hl (cut_live z)) ho (Reps.cut hs (by simpa [D.und] using e))
  | _, _, .ins h hl ho hs hc, e => .ins h (fun z => hl (cut_live z)) ho (RepF.cut hs (by simpa [D.und] using e)) hc
  | _, _, .exo h h2 hl hl2 ho ho2 hs hc, e => .exo h h2 (fun z => hl (cut_live z)) (fun z => hl2 (cut_live z)) ho ho2 (RepF.cut hs (by simpa [D.und] using e)) hc
  | _, _, @Rep.ref _ _ a m h, e => .ref (by
    have hm : m < n := by simpa [D.und] using e
    show (w.mu.take n)[m]? = some a
    rw [List.getElem?_take, if_pos hm]
    exact h)
theorem Reps.cut {n : Nat} : ∀ {vs : List V} {ds : List D}, Reps K w vs ds → D.unds n ds = true → Reps K (w.cut n) vs ds
  | _, _, .nil, _ => .nil
  | _, _, .cons r t, e => by
    simp only [D.unds, Bool.and_eq_true] at e
    exact .cons (Rep.cut r e.1) (Reps.cut t e.2)
theorem RepF.cut {n : Nat} : ∀ {vs : List (Str × V)} {ds : List (Str × D)}, RepF K w vs ds → D.undF n ds = true → RepF K (w.cut n) vs ds
  | _, _, .nil, _ => .nil
  | _, _, .cons r t, e => by
    simp only [D.undF, Bool.and_eq_true] at e
    exact .cons (Rep.cut r e.1) (RepF.cut t e.2)
end
theorem cut_ok {n : Nat} (ok : Ok K w) (h : stoBelow n (w.st.take n) = true) : Ok K (w.cut n) := by
  refine ⟨by simp [Wd.cut, ok.len], ok.nd.sublist (List.take_sublist _ _), fun a ha => ok.has a (List.mem_of_mem_take ha), fun a ha => ⟨fun z => (ok.opn a ha).1 (List.mem_of_mem_take z), (ok.opn a ha).2⟩, fun m a o h1 h2 => ?_, ok.tab⟩
  have h1 : (w.mu.take n)[m]? = some a := h1
  have h2 : (w.st.take n)[m]? = some (some o) := h2
  have hb : O.und n o = true := by
    have := List.all_eq_true.mp h _ (List.mem_of_getElem? h2)
    exact this
  rw [List.getElem?_take] at h1 h2
  split at h1
  · rename_i hm
    rw [if_pos hm] at h2
    have r := ok.obj m a o h1 h2
    cases o with
    | lst ds =>
      obtain ⟨vs, q1, q2⟩ := r
      exact ⟨vs, q1, q2.cut hb⟩
    | ins C fs =>
      obtain ⟨dx, fv, q1, q2, hc⟩ := r
      exact ⟨dx, fv, q1, q2.cut hb, hc⟩
  · cases h1
/-- a step, and the new things of the store forgotten -/
theorem cut_step (s : Step w w') (ok : Ok K w) : Step w (w'.cut w.st.length) := by
  obtain ⟨ν, e, hν⟩ := s.ext
  refine ⟨⟨[], ?_, by simp⟩, s.kp, fun n h => ?_, ?_, s.has, s.op⟩
  · show w'.mu.take w.st.length = w.mu ++ []
    rw [e, ← ok.len, List.take_left, List.append_nil]
  · show (w'.st.take w.st.length)[n]? = some none
    rw [List.getElem?_take, if_pos (List.getElem?_eq_some_iff.mp h).1]
    exact s.dead n h
  · show w.st.length ≤ (w'.st.take w.st.length).length
    rw [List.length_take]
    have := s.len
    omega
theorem finR_ok {mu : List Addr} {d : D} {st : Sto} {H : Hp} {v : V} {Q : VK} {E : XK} (ok : Ok K w) (s : Step w ⟨mu, st, H, w.op⟩) (o : Ok K ⟨mu, st, H, w.op⟩) (r : Rep K ⟨mu, st, H, w.op⟩ v d) (p : PR K (Rep K) w (finR w.st.length d st) Q E) : Q v H := by
  unfold finR at p
  by_cases h0 : st.length ≤ w.st.length
  · rw [if_pos h0] at p
    exact p v mu H s o r
  rw [if_neg h0] at p
  by_cases h : (D.und w.st.length d && stoBelow w.st.length (st.take w.st.length)) = true
  · rw [if_pos h] at p
    obtain ⟨h1, h2⟩ := Bool.and_eq_true_iff.mp h
    exact p v (mu.take w.st.length) H (cut_step s ok) (cut_ok o h2) (r.cut h1)
  · rw [if_neg h] at p
    exact p v mu H s o r
theorem finX_ok {mu : List Addr} {x : Exn} {st : Sto} {H : Hp} {c : Value} {dd : Option Addr} {Q : VK} {E : XK} (ok : Ok K w) (s : Step w ⟨mu, st, H, w.op⟩) (o : Ok K ⟨mu, st, H, w.op⟩) (r : RepX K ⟨mu, st, H, w.op⟩ x c dd) (p : PR K (Rep K) w (finX w.st.length x st) Q E) : E c dd H := by
  unfold finX at p
  by_cases h : (D.undF w.st.length x.fs && stoBelow w.st.length (st.take w.st.length)) = true
  · rw [if_pos h] at p
    obtain ⟨h1, h2⟩ := Bool.and_eq_true_iff.mp h
    obtain ⟨q1, qc, d, fv, q2, q3, q4, q6, q5⟩ := r
    exact p c dd (mu.take w.st.length) H (cut_step s ok) (cut_ok o h2) ⟨q1, qc, d, fv, q2, q3, fun z => q4 (cut_live z), q6, q5.cut h1⟩
  · rw [if_neg h] at p
    exact p c dd mu H s o r
end
/-- an expression's value made fast: by value, and what it made in the store is forgotten -/
def eFrz (m : Em) : Em := fun σ st => match m σ st with
  | .ok d st1 => match frzD d st1 with
    | .ok d2 st2 => finR st.length d2 st2
    | .exc x st2 => .exc x st2
    | .bad => .bad
  | .exc x st1 => .exc x st1
  | .bad => .bad
theorem se_frz {X : Cx} {W : WX} {e : Expr} {m : Em} (h : SE X W e m) : SE X W e (eFrz m) :=
  pe_imp h fun σV H Q q => by
    obtain ⟨w, σ, rfl, ok, sl, p⟩ := q
    refine ⟨w, σ, rfl, ok, sl, ?_⟩
    unfold eFrz at p
    cases e1 : m σ w.st with
    | ok d st1 =>
      rw [e1] at p
      intro v mu H1 s1 ok1 r1
      refine frz_ok (w := ⟨mu, st1, H1, w.op⟩) (E := fun _ _ _ => False) ok1 r1 ?_
      show PR _ _ _ (frzD d st1) _ _
      cases e2 : frzD d st1 with
      | ok d2 st2 =>
        simp only [e2] at p
        intro v2 mu2 H2 s2 ok2 r2
        exact finR_ok ok (s1.trans s2 ok) ok2 r2 p
      | exc x st2 =>
        unfold frzD at e2
        split at e2
        · split at e2 <;> cases e2
        · cases e2
      | bad => simp only [e2] at p; exact p.elim
    | exc x st1 => rw [e1] at p; exact p
    | bad => rw [e1] at p; exact p.elim
/-- a def's promise: it does what the mirror does -/
def spM (K : Frag) (n : Nat) (m : List D → Sto → Res D) : Sp := fun vs H Q E => ∃ w ds, w.H = H ∧ Ok K w ∧ Reps K w vs ds ∧ ds.length = n ∧ PR K (Rep K) w (m ds w.st) Q E
theorem spM.len {K : Frag} {n : Nat} {m : List D → Sto → Res D} {vs : List V} {H : Hp} {Q : VK} {E : XK} (h : spM K n m vs H Q E) : vs.length = n := by
  obtain ⟨w, ds, _, _, r, l, _⟩ := h
  rw [r.length, l]
/-- the wish of a def's body -/
abbrev wOf (E : XK) : WX := fun c d _ H => E c d H
theorem start_slots {K : Frag} {w : Wd} {N : List Str} {vs : List V} {ds : List D} (r : Reps K w vs ds) : Slots K w (ds.map some ++ List.replicate (N.length - ds.length) none) (L2.start N vs) := by
  have hl := r.length
  refine ⟨by unfold L2.start; simp [hl], fun i d e => ?_⟩
  unfold L2.start
  by_cases hi : i < ds.length
  · rw [List.getElem?_append_left (by simpa using hi), List.getElem?_map] at e
    cases q : ds[i]? with
    | none => rw [q] at e; cases e
    | some x =>
      rw [q] at e
      have ex : x = d := by simpa using e
      subst ex
      obtain ⟨v, h1, h2⟩ := r.get q
      exact ⟨v, by rw [List.getElem?_append_left (by simp [hl, hi]), List.getElem?_map, h1]; rfl, h2⟩
  · rw [List.getElem?_append_right (by simpa using hi), List.getElem?_replicate] at e
    split at e <;> cases e
theorem body_reads {K : Frag} {N : List Str} {body : Sm} {n : Nat} {vs : List V} {H : Hp} {Q : VK} {E : XK} (h : spM K n (runDef N.length body) vs H Q E) : TSm K body (wOf E) { nx := fun _ H' => Q .non H', rt := Q } (L2.start N vs) H := by
  obtain ⟨w, ds, rfl, ok, r, l, p⟩ := h
  refine ⟨w, _, rfl, ok, start_slots r, ?_⟩
  unfold runDef at p
  cases e : body (ds.map some ++ List.replicate (N.length - ds.length) none) w.st with
  | nx σ st =>
    rw [e] at p
    exact fun σV mu H s o sl => finR_ok ok s o .non p
  | rt d st =>
    rw [e] at p
    exact fun v mu H s o r => finR_ok ok s o r p
  | exc x σ st =>
    rw [e] at p
    exact fun c dd σV mu H s o sl r => finX_ok ok s o r p
  | bk σ st => rw [e] at p; exact p.elim
  | ct σ st => rw [e] at p; exact p.elim
  | bad => rw [e] at p; exact p.elim
section
variable {P : Program} {wd : World} {K : Frag} {mg : Str → Option Value} {base : Heap}
abbrev CXp (P : Program) (wd : World) : CXT := L2.CX P wd
/-- a def of the text is its mirror -/
theorem fn_sim {x qual : Str} {params : Arguments} {body : List Stmt} {scope : Scope} {dvs : List V} {kws : List (Str × V)} {f : Addr} {fd : FuncData} {N ps : List Str} {k : Nat} {m : Sm}
    (F : FunD K x qual params body scope dvs kws f fd) (S : FnScope N ps scope)
    (hb : ∀ (cdv : Value) (A : Around) (outer : List Env) (s : Shared) (H : Hp) (E : XK), Room k (A.deeper (envOfC qual scope s.heap.objs.size f cdv)) →
      SSs (cxOf (CXp P wd) P wd K mg base N qual scope f cdv A outer s H E) (wOf E) body m) : FnOk P wd K mg base (CXp P wd) (k + 1) f fd ps (spM K ps.length (runDef N.length m)) :=
  F.ok S (fun vs H Q E h => h.len) fun cdv A outer s H vs Q E hr h => ⟨_, hb cdv A outer s H E hr, body_reads h⟩
end
/-! ### calls -/
section
variable {X : Cx} {W : WX} {k n : Nat} {f : Addr} {fd : FuncData} {ps : List Str} {x : Str} {p pos : Pos} {e : Expr} {es : List Expr} {ma : Am} {m : List D → Sto → Res D} {dvs : List V} {ds : List Value} {dd : List D}
@[simp] def eCall (m : List D → Sto → Res D) (a : Am) (dd : List D) : Em := fun σ st => (a σ st).bind fun as st1 => m (as ++ dd) st1
def repDflt (K : Frag) (vs : List V) (ds : List D) : Prop := ∀ w, Ok K w → Reps K w vs ds
theorem t_call (hn : ∀ ds st, m ds st ≠ .bad → ds.length = n) (hd : repDflt X.K dvs dd) {σV : L2.St} {H : Hp} {Q : VK} (q : TEm X.K (eCall m ma dd) W σV H Q) : tCallSD (spM X.K n m) dvs (WE W) (TAm X.K ma W) σV H Q := by
  obtain ⟨w, σ, rfl, ok, sl, p⟩ := q
  refine ⟨w, σ, rfl, ok, sl, PR.bind ok p fun ds st vs mu H1 e1 s1 ok1 r1 p1 => ?_⟩
  refine ⟨⟨mu, st, H1, w.op⟩, ds ++ dd, rfl, ok1, r1.append (hd _ ok1), hn _ _ (fun z => by rw [z] at p1; exact p1), p1⟩
theorem se_call (F : FnOk X.prog X.w X.K X.mg X.base (CXp X.prog X.w) k f fd ps (spM X.K n m)) (hr : Room k X.A) (hm : X.mg x = some (.ref f)) (hk : PySem.W.keepIn X.K (.ref f) = true) (hb : Binds X.K fd ps ds) (hd : Vals dvs ds) (tk : Takes X W)
    (hn : ∀ ds st, m ds st ≠ .bad → ds.length = n) (hdd : repDflt X.K dvs dd) (ha : SA X W (e :: es) ma)
    (hg : Gl X x := by rfl) (hdb : (x == ("__debug__" : Str)) = false := by decide) (he : starEach (e :: es) X.env = (false, eval e X.env) :: starEach es X.env := by rfl) (hpl : (backTo pos (starEach es X.env)).any (·.1) = false := by rfl) :
    SE X W (.Call (.Name x p) (e :: es) [] pos) (eCall m ma dd) :=
  pe_imp (pe_callSD (E := WE W) F hr hg hm hk hb hd (fun σ => passAt tk σ) ha hdb he hpl) fun _ _ _ q => t_call hn hdd q
end
end Sim

set_option Elab.async false
set_option linter.all false
set_option maxRecDepth 100000
set_option maxHeartbeats 4000000
/-! lists and tuples, loops -/
namespace Sim
open PySem PySem.Spec PyProof.Rows L2

/-! ### what a value holds -/
def itemsOf (d : D) (st : Sto) : Option (List D) := match d with
  | .tup ds => some ds
  | .lst ds => some ds
  | .scr ds => some ds
  | .ref n => match st[n]? with
    | some (some (.lst ds)) => some ds
    | _ => none
  | _ => none
@[simp] theorem itemsOf_tup (ds : List D) (st : Sto) : itemsOf (.tup ds) st = some ds := rfl
@[simp] theorem itemsOf_scr (ds : List D) (st : Sto) : itemsOf (.scr ds) st = some ds := rfl
@[simp] theorem itemsOf_lst (ds : List D) (st : Sto) : itemsOf (.lst ds) st = some ds := rfl
section
variable {K : Frag} {w : Wd}
theorem items_ok {v : V} {d : D} {ds : List D} (ok : Ok K w) (r : Rep K w v d) (e : itemsOf d w.st = some ds) : ∃ a vs, v = .ref a ∧ (SqL K w.H a vs ∨ SqT K w.H a vs) ∧ Reps K w vs ds := by
  cases r with
  | tup h ho hs => cases e; exact ⟨_, _, rfl, .inr (.inl h), hs⟩
  | ktup h hs => cases e; exact ⟨_, _, rfl, .inr (h _), hs⟩
  | lst h hl ho hs => cases e; exact ⟨_, _, rfl, .inl (.inl (.inl h)), hs⟩
  | scr h hl ho hs => cases e; exact ⟨_, _, rfl, .inl (.inl (.inr ⟨_, h⟩)), hs⟩
  | kscr h ht hs => cases e; exact ⟨_, _, rfl, .inl (h _), hs⟩
  | @ref a n h =>
    unfold itemsOf at e
    cases q : w.st[n]? with
    | none => simp only [q] at e; cases e
    | some o =>
      cases o with
      | none => simp only [q] at e; cases e
      | some o =>
        cases o with
        | ins C fs => simp only [q] at e; cases e
        | lst xs =>
          simp only [q] at e
          cases e
          obtain ⟨vs, h1, h2⟩ := ok.obj n a _ h q
          exact ⟨a, vs, rfl, .inl (.inl (.inl h1)), h2⟩
  | _ => cases e
/-- a list alone (not a tuple, not the script) -/
def listOf (d : D) (st : Sto) : Option (List D) := match d with
  | .tup _ => none
  | .scr _ => none
  | d => itemsOf d st
@[simp] theorem listOf_lst (ds : List D) (st : Sto) : listOf (.lst ds) st = some ds := rfl
theorem list_ok {v : V} {d : D} {ds : List D} (ok : Ok K w) (r : Rep K w v d) (e : listOf d w.st = some ds) : ∃ a vs, v = .ref a ∧ w.H a = some (.lst vs) ∧ Reps K w vs ds := by
  cases r with
  | tup h ho hs => cases e
  | ktup h hs => cases e
  | scr h hl ho hs => cases e
  | kscr h ht hs => cases e
  | lst h hl ho hs => cases e; exact ⟨_, _, rfl, h, hs⟩
  | @ref a n h =>
    have e : itemsOf (.ref n) w.st = some ds := e
    unfold itemsOf at e
    cases q : w.st[n]? with
    | none => simp only [q] at e; cases e
    | some o =>
      cases o with
      | none => simp only [q] at e; cases e
      | some o =>
        cases o with
        | ins C fs => simp only [q] at e; cases e
        | lst xs =>
          simp only [q] at e
          cases e
          obtain ⟨vs, h1, h2⟩ := ok.obj n a _ h q
          exact ⟨a, vs, rfl, h1, h2⟩
  | _ => cases e
theorem Reps.ixN {vs : List V} {ds : List D} {i : Int} {d : D} (r : Reps K w vs ds) (h : atI ds i = some d) : ∃ v, atI vs i = some v ∧ Rep K w v d := by
  unfold atI at h ⊢
  rw [← r.length] at h
  cases e : L2.ixN vs.length i with
  | none => rw [e] at h; cases h
  | some j =>
    rw [e] at h
    exact r.get h
end
/-- x[i] -/
def ixD : D → D → Sto → Res D := fun x y st => match y with
  | .int i => match x with
    | .str z => if z.length ≤ line then (match atI z.cps.toList i with
      | some c => .ok (.str ⟨#[c]⟩) st
      | none => .bad) else .bad
    | x => match itemsOf x st with
      | some ds => (match atI ds i with
        | some d => .ok d st
        | none => .bad)
      | none => .bad
  | _ => .bad
theorem gop_ix {X : Cx} : GOp X.K (rIx X.K) ixD := by
  intro w x y dx dy Q E ok rx ry p
  cases ry with
  | int i =>
    by_cases hs : ∃ z, dx = .str z
    · obtain ⟨z, rfl⟩ := hs
      cases rx
      unfold ixD at p
      simp only at p
      by_cases hz : z.length ≤ line
      · rw [if_pos hz] at p
        cases e : atI z.cps.toList i with
        | none => rw [e] at p; exact p.elim
        | some c =>
          rw [e] at p
          exact .inr (.inr ⟨z, i, c, rfl, rfl, by rw [line_eq]; exact hz, e, PR.ret (R := Rep X.K) ok p (.str _)⟩)
      · rw [if_neg hz] at p; exact p.elim
    · have e0 : ixD dx (.int i) w.st = (match itemsOf dx w.st with
        | some ds => (match atI ds i with
          | some d => .ok d w.st
          | none => .bad)
        | none => .bad) := by
        cases dx with
        | str z => exact absurd ⟨z, rfl⟩ hs
        | _ => rfl
      rw [e0] at p
      cases e1 : itemsOf dx w.st with
      | none => rw [e1] at p; exact p.elim
      | some ds =>
        rw [e1] at p
        simp only at p
        cases e2 : atI ds i with
        | none => rw [e2] at p; exact p.elim
        | some d =>
          rw [e2] at p
          obtain ⟨a, vs, rfl, hq, rs⟩ := items_ok ok rx e1
          obtain ⟨v, e3, r3⟩ := rs.ixN e2
          have fin : Q v w.H := PR.ret (R := Rep X.K) ok p r3
          rcases hq with hq | hq
          · exact .inl ⟨a, vs, i, v, rfl, rfl, hq, e3, fin⟩
          · exact .inr (.inl ⟨a, vs, i, v, rfl, rfl, hq, e3, fin⟩)
  | _ => exact p.elim
section
variable {X : Cx} {W : WX} {a b : Expr} {ma mb : Em} {pos : Pos}
theorem se_ix (ha : SE X W a ma) (hb : SE X W b mb) (hs : PlainIx b := by intro _ _; rfl) : SE X W (.Subscript a b pos) (eBin ixD ma mb) := pe_imp (pe_ix ix_seq ha hb hs) fun _ _ _ q => t_bin gop_ix q
end
/-! ### slices -/
def cutD (xs : List D) (lo hi : Option Int) : List D := (xs.drop (HT.sIx xs.length 0 lo)).take (HT.sIx xs.length xs.length hi - HT.sIx xs.length 0 lo)
theorem Reps.cutV {K : Frag} {w : Wd} {vs : List V} {ds : List D} (r : Reps K w vs ds) (lo hi : Option Int) : Reps K w (L2.cutV vs lo hi) (cutD ds lo hi) := by
  unfold L2.cutV cutD
  rw [r.length]
  exact (r.drop _).take _
/-- a part of a slice -/
@[simp] def pNone : Sl → Sto → Res (Option Int) := fun _ st => .ok none st
@[simp] def pSome (m : Em) : Sl → Sto → Res (Option Int) := fun σ st => (m σ st).bind fun d st1 => match d with
  | .int i => .ok (some i) st1
  | _ => .bad
abbrev Pm := Sl → Sto → Res (Option Int)
def TPm (K : Frag) (m : Pm) (W : WX) : L2.TO := fun σV H Q => ∃ w σ, w.H = H ∧ Ok K w ∧ Slots K w σ σV ∧ PR K (fun _ b c => b = c) w (m σ w.st) Q (xk W σV)
def SP (X : Cx) (W : WX) (e : Option Expr) (m : Pm) : Prop := PO X e (TPm X.K m W)
section
variable {X : Cx} {W : WX} {e : Expr} {m : Em} {lo hi : Option Expr} {ml mh : Pm} {pos p2 : Pos}
theorem sp_none : SP X W none pNone := ⟨fun pins s σV H Q I q => by
  obtain ⟨w, σ, rfl, ok, sl, p⟩ := q
  exact po_none.run pins s σV _ Q I (PR.ret (R := fun _ b c => b = c) ok p rfl)⟩
theorem sp_some (h : SE X W e m) : SP X W (some e) (pSome m) := ⟨fun pins s σV H Q I q => by
  refine (po_some h).run pins s σV H Q I ?_
  obtain ⟨w, σ, rfl, ok, sl, p⟩ := q
  refine ⟨w, σ, rfl, ok, sl, PR.bind ok p fun d st v mu H1 e1 s1 ok1 r1 p1 => ?_⟩
  cases r1 with
  | int i => exact ⟨i, rfl, PR.ret (R := fun _ b c => b = c) ok1 p1 rfl⟩
  | _ => exact p1.elim⟩
/-- x[lo:hi] of a list, a tuple, a text -/
def slD (k : Bool) (x : D) (lo hi : Option Int) (st : Sto) : Res D := match x with
  | .str z => if z.length ≤ line then .ok (.str (cutS z lo hi)) st else .bad
  | .tup ds => .ok (.tup (cutD ds lo hi)) st
  | x => match itemsOf x st with
    | some ds => mkL k (cutD ds lo hi) st
    | none => .bad
@[simp] def eSl (k : Bool) (a : Em) (l h : Pm) : Em := fun σ st => (a σ st).bind fun x st1 => (l σ st1).bind fun lo st2 => (h σ st2).bind fun hi st3 => slD k x lo hi st3
theorem cutD_all {ds : List D} {lo hi : Option Int} (h : HT.sIx ds.length 0 lo = 0 ∧ HT.sIx ds.length ds.length hi = ds.length) : cutD ds lo hi = ds := by
  unfold cutD
  rw [h.1, h.2]
  simp
theorem slD_ok {k : Bool} {w : Wd} {v : V} {d : D} {lo hi : Option Int} {Q : VK} {E : XK} (ok : Ok X.K w) (r : Rep X.K w v d) (p : PR X.K (Rep X.K) w (slD k d lo hi w.st) Q E) : rSlL X.K v lo hi w.H Q ∨ rSlA X.K v lo hi w.H Q ∨ rSlS v lo hi w.H Q := by
  have tupCase : ∀ {a : Addr} {vs : List V} {ds : List D}, SqT X.K w.H a vs → Reps X.K w vs ds → Rep X.K w (.ref a) (.tup ds) → PR X.K (Rep X.K) w (.ok (.tup (cutD ds lo hi)) w.st) Q E → rSlA X.K (.ref a) lo hi w.H Q := by
    intro a vs ds hq rs r p
    refine ⟨a, vs, rfl, hq, fun hw => ?_, fun hw q hn => ?_⟩
    · rw [rs.length] at hw
      rw [cutD_all hw] at p
      exact PR.ret (R := Rep X.K) ok p r
    · exact PR.new ok hn p (rep_new_tup ok hn (rs.cutV lo hi))
  cases r with
  | str z =>
    unfold slD at p
    simp only at p
    by_cases hz : z.length ≤ line
    · rw [if_pos hz] at p
      exact .inr (.inr ⟨z, rfl, by rw [line_eq]; exact hz, PR.ret (R := Rep X.K) ok p (.str _)⟩)
    · rw [if_neg hz] at p; exact p.elim
  | tup h ho hs => exact .inr (.inl (tupCase (.inl h) hs (.tup h ho hs) p))
  | ktup h hs => exact .inr (.inl (tupCase (h _) hs (.ktup h hs) p))
  | @lst a vs ds h hl ho hs => exact .inl ⟨a, vs, rfl, .inl (.inl h), (mkL_ok ok p (hs.cutV lo hi)).2⟩
  | @scr a o vs ds h hl ho hs => exact .inl ⟨a, vs, rfl, .inl (.inr ⟨o, h⟩), (mkL_ok ok p (hs.cutV lo hi)).2⟩
  | @kscr a vs ds h ht hs => exact .inl ⟨a, vs, rfl, h _, (mkL_ok ok p (hs.cutV lo hi)).2⟩
  | @ref a n h =>
    have e0 : slD k (.ref n) lo hi w.st = (match itemsOf (.ref n) w.st with
      | some ds => mkL k (cutD ds lo hi) w.st
      | none => .bad) := rfl
    rw [e0] at p
    cases e1 : itemsOf (.ref n) w.st with
    | none => rw [e1] at p; exact p.elim
    | some ds =>
      rw [e1] at p
      obtain ⟨b, vs, e2, hq, rs⟩ := list_ok (d := .ref n) ok (.ref h) e1
      cases e2
      exact .inl ⟨a, vs, rfl, .inl (.inl hq), (mkL_ok ok p (rs.cutV lo hi)).2⟩
  | _ => exact p.elim
theorem se_sl {k : Bool} (he : SE X W e m) (hl : SP X W lo ml) (hh : SP X W hi mh) : SE X W (.Subscript e (.Slice lo hi none p2) pos) (eSl k m ml mh) :=
  pe_imp (pe_slice (sl_list.or (sl_tupA.or sl_str)) he hl hh) fun σV H Q q => by
    obtain ⟨w, σ, rfl, ok, sl, p⟩ := q
    refine ⟨w, σ, rfl, ok, sl, PR.bind ok p fun d st v mu H1 e1 s1 ok1 r1 p1 => ?_⟩
    refine ⟨⟨mu, st, H1, w.op⟩, σ, rfl, ok1, sl.step s1 ok, PR.bind ok1 p1 fun l st2 l2 mu2 H2 e2 s2 ok2 r2 p2 => ?_⟩
    subst r2
    refine ⟨⟨mu2, st2, H2, w.op⟩, σ, rfl, ok2, (sl.step s1 ok).step s2 ok1, PR.bind ok2 p2 fun h st3 h2 mu3 H3 e3 s3 ok3 r3 p3 => ?_⟩
    subst r3
    exact slD_ok (w := ⟨mu3, st3, H3, w.op⟩) ok3 ((r1.step s2 ok1).step s3 ok2) p3
end
/-! ### targets -/
abbrev Gm := D → Sl → Option Sl
abbrev Gms := List D → Sl → Option Sl
def SG (X : Cx) (tg : Expr) (gm : Gm) : Prop := ∃ g, PG X tg g ∧ ∀ (w : Wd) (v : V) (d : D) (σ σ' : Sl) (σV : L2.St) (Q : L2.St → Hp → Prop), Ok X.K w → Rep X.K w v d → Slots X.K w σ σV → gm d σ = some σ' → (∀ σV', Slots X.K w σ' σV' → Q σV' w.H) → g v σV w.H Q
def SGs (X : Cx) (tgs : List Expr) (gm : Gms) : Prop := ∃ g, PGs X tgs g ∧ ∀ (w : Wd) (vs : List V) (ds : List D) (σ σ' : Sl) (σV : L2.St) (Q : L2.St → Hp → Prop), Ok X.K w → Reps X.K w vs ds → Slots X.K w σ σV → gm ds σ = some σ' → (∀ σV', Slots X.K w σ' σV' → Q σV' w.H) → g vs σV w.H Q
@[simp] def gN (i : Nat) : Gm := fun d σ => some (σ.set i (some d))
@[simp] def gT (n : Nat) (gs : Gms) : Gm := fun d σ => match d with
  | .tup ds => if ds.length = n then gs ds σ else none
  | _ => none
@[simp] def gsNil : Gms := fun ds σ => match ds with
  | [] => some σ
  | _ => none
@[simp] def gsCons (g : Gm) (gs : Gms) : Gms := fun ds σ => match ds with
  | d :: ds => match g d σ with
    | some σ1 => gs ds σ1
    | none => none
  | [] => none
section
variable {X : Cx}
theorem sg_name {i : Nat} {x : Str} {pos : Pos} (hN : X.N.Nodup) (hi : X.N[i]? = some x) (hx : Loc X.env.scope x) (hf : X.fn x = true ∨ X.env.scope.names.lookup x = some .local := by first | exact .inl rfl | exact .inr rfl | assumption) : SG X (.Name x pos) (gN i) :=
  ⟨gName i, pg_name hN hi hx hf, fun w v d σ σ' σV Q ok r sl e k => by
    cases e
    exact k _ (sl.set r i)⟩
theorem sgs_nil : SGs X [] gsNil := ⟨_, pgs_nil, fun w vs ds σ σ' σV Q ok r sl e k => by
  cases r with
  | nil => cases e; exact ⟨rfl, k _ sl⟩
  | cons _ _ => cases e⟩
theorem sgs_cons {e : Expr} {es : List Expr} {g : Gm} {gs : Gms} (h1 : SG X e g) (h2 : SGs X es gs) (hs : (assignEach (e :: es) X.env).map (·.2) = assign e X.env :: (assignEach es X.env).map (·.2) := by rfl) : SGs X (e :: es) (gsCons g gs) := by
  obtain ⟨g1, p1, k1⟩ := h1
  obtain ⟨g2, p2, k2⟩ := h2
  refine ⟨_, pgs_cons p1 p2 hs, fun w vs ds σ σ' σV Q ok r sl e k => ?_⟩
  cases r with
  | nil => cases e
  | @cons v d vs ds r rs =>
    simp only [gsCons] at e
    cases q : g d σ with
    | none => rw [q] at e; cases e
    | some σ1 =>
      rw [q] at e
      exact ⟨v, vs, rfl, k1 w v d σ σ1 σV _ ok r sl q fun σV1 sl1 => k2 w vs ds σ1 σ' σV1 Q ok rs sl1 e k⟩
theorem sg_tup {es : List Expr} {k : Nat} {gs : Gms} {n : Nat} {pos : Pos} (hc : X.calm = true) (h : SGs X es gs) (hn : (assignEach es X.env).length = n := by rfl) (hst : (assignEach es X.env).findIdx? (·.1) = none := by rfl) : SG X (.Tuple es k pos) (gT n gs) := by
  obtain ⟨g, p, kk⟩ := h
  refine ⟨_, pg_tup hc p hn hst, fun w v d σ σ' σV Q ok r sl e k => ?_⟩
  cases r with
  | tup h ho hs =>
    simp only [gT] at e
    split at e
    · rename_i hl
      exact ⟨_, _, rfl, .inl h, by rw [hs.length]; exact hl, kk w _ _ σ σ' σV Q ok hs sl e k⟩
    · cases e
  | ktup h hs =>
    simp only [gT] at e
    split at e
    · rename_i hl
      exact ⟨_, _, rfl, h _, by rw [hs.length]; exact hl, kk w _ _ σ σ' σV Q ok hs sl e k⟩
    · cases e
  | _ => cases e
/-- target = value -/
@[simp] def sAsg (m : Em) (g : Gm) : Sm := fun σ st => (m σ st).toRS σ fun d st1 => match g d σ with
  | some σ' => .nx σ' st1
  | none => .bad
theorem ss_asg {W : WX} {tg e : Expr} {m : Em} {g : Gm} {pos : Pos} (he : SE X W e m) (hg : SG X tg g) (hs : swapsWithSole [tg] e pos.line X.env = pure false := by rfl) (hw : swappedStores [tg] e X.env = pure none := by rfl)
    (h1 : (assignEach [tg] X.env).map (·.2) = [assign tg X.env] := by rfl) : SS X W (.Assign [tg] e pos) (sAsg m g) := by
  obtain ⟨g1, p1, k1⟩ := hg
  refine ps_imp (ps_asg he p1 hs hw h1) fun D σV H q => ?_
  obtain ⟨w, σ, rfl, ok, sl, p⟩ := q
  refine ⟨w, σ, rfl, ok, sl, PSr.toR ok sl p fun d st v mu H1 e1 s1 ok1 r1 p1 => ?_⟩
  cases q : g d σ with
  | none => rw [q] at p1; exact p1.elim
  | some σ' =>
    rw [q] at p1
    exact k1 ⟨mu, st, H1, w.op⟩ v d σ σ' σV _ ok1 r1 (sl.step s1 ok) q fun σV' sl' => PSr.ret (w := ⟨mu, st, H1, w.op⟩) ok1 p1 sl'
/-- a, b = x, y of plain local names -/
@[simp] def sPar (i j : Nat) (a b : Em) : Sm := fun σ st => (a σ st).toRS σ fun x st1 => (b σ st1).toRS σ fun y st2 => .nx ((σ.set i (some x)).set j (some y)) st2
theorem ss_par {W : WX} {i j : Nat} {x y : Str} {a b : Expr} {ma mb : Em} {px py pt pos : Pos} {kt k2 pt2} (hc : X.calm = true) (hN : X.N.Nodup) (hi : X.N[i]? = some x) (hj : X.N[j]? = some y) (hij : i ≠ j)
    (hx : X.env.scope.names.lookup x = some .local) (hy : X.env.scope.names.lookup y = some .local) (ha : SE X W a ma) (hb : SE X W b mb)
    (hw : swappedStores [.Tuple [.Name x px, .Name y py] kt pt] (.Tuple [a, b] k2 pt2) X.env = pure (some [x, y]))
    (hsa : starEach [a, b] X.env = (false, eval a X.env) :: starEach [b] X.env := by rfl) (hsb : starEach [b] X.env = (false, eval b X.env) :: starEach [] X.env := by rfl)
    (hs : swapsWithSole [.Tuple [.Name x px, .Name y py] kt pt] (.Tuple [a, b] k2 pt2) pos.line X.env = pure false := by rfl) :
    SS X W (.Assign [.Tuple [.Name x px, .Name y py] kt pt] (.Tuple [a, b] k2 pt2) pos) (sPar i j ma mb) := by
  refine ps_imp (ps_par hc hN hi hj hij hx hy (sa_cons ha (sa_cons hb sa_nil hsb) hsa) hw hs) fun D σV H q => ?_
  obtain ⟨w, σ, rfl, ok, sl, p⟩ := q
  refine ⟨w, σ, rfl, ok, sl, ?_⟩
  simp only [sPar] at p
  simp only [aCons]
  cases e1 : ma σ w.st with
  | bad => rw [e1] at p; exact p.elim
  | exc x st => rw [e1] at p; exact fun c dd mu H t o q => p c dd σV mu H t o (sl.step t ok) q
  | ok d1 st1 =>
    rw [e1] at p
    simp only [Res.toRS, Res.bind] at p ⊢
    cases e2 : mb σ st1 with
    | bad => rw [e2] at p; exact p.elim
    | exc x st => rw [e2] at p; exact fun c dd mu H t o q => p c dd σV mu H t o (sl.step t ok) q
    | ok d2 st2 =>
      rw [e2] at p
      simp only [aNil, Res.bind]
      intro vs mu H1 s1 ok1 r1
      cases r1 with
      | cons q1 t1 =>
        cases t1 with
        | cons q2 t2 =>
          cases t2
          exact ⟨_, _, rfl, p _ mu H1 s1 ok1 (((sl.step s1 ok).set q1 i).set q2 j)⟩
end
end Sim

set_option Elab.async false
set_option linter.all false
set_option maxRecDepth 100000
set_option maxHeartbeats 4000000
/-! loops -/
namespace Sim
open PySem PySem.Spec PyProof.Rows L2 RT RZ

/-- an iterator that hands out these items -/
def Wk (K : Frag) (w0 : Wd) (J : It) (items : List D) : Prop := ∃ (G : Hp → Prop) (Y : Nat → Hp → V → Hp → Prop), Walk J items.length G Y ∧ (∀ w, Step w0 w → Ok K w → G w.H) ∧
  ∀ i d w x H', items[i]? = some d → Step w0 w → Ok K w → Y i w.H x H' → ∃ w' : Wd, w'.H = H' ∧ w'.st = w.st ∧ w'.op = w.op ∧ Step w w' ∧ Ok K w' ∧ Rep K w' x d
abbrev Im := Sl → Sto → Res (List D)
def TIm (K : Frag) (m : Im) (W : WX) : TI := fun σV H R => ∃ w σ, w.H = H ∧ Ok K w ∧ Slots K w σ σV ∧ PR K (fun w J items => Wk K w J items) w (m σ w.st) R (xk W σV)
def SI (X : Cx) (W : WX) (tg iter : Expr) (m : Im) : Prop := PI X tg iter (TIm X.K m W)
theorem pi_imp {X : Cx} {tg e : Expr} {t t' : TI} (h : PI X tg e t) (i : ∀ σ H Q, t' σ H Q → t σ H Q) : PI X tg e t' := ⟨fun pins s σ H R I q => h.run pins s σ H R I (i σ H R q)⟩
section
variable {X : Cx} {W : WX} {tg : Expr} {K : Frag}
/-! ### what is walked -/
def iSeq (K : Frag) (tl : TE) : TI := fun σ H R => tl σ H fun x H1 => ∃ a, x = .ref a ∧ ((∃ xs, SqL K H1 a xs ∧ R (Itl K a) H1) ∨ (∃ xs, SqT K H1 a xs ∧ R (Itt K a) H1))
theorem pi_seq {l : Expr} {tl : TE} (hl : PE X l tl) : PI X tg l (iSeq X.K tl) := by
  refine ⟨fun pins s σ H R I h => ?_⟩
  refine thn (hl.run pins s σ H _ I h) fun v s1 ⟨x, H1, I1, r1, q1⟩ => ?_
  obtain ⟨a, e, q⟩ := q1
  subst e
  cases r1
  rcases q with ⟨xs, hq, q⟩ | ⟨xs, hq, q⟩
  · obtain ⟨its, rv, p, hz⟩ := I1.list hq
    refine wpAny_pyIter_list p.isList ?_
    refine ⟨s1.heap.objs.size, [s1.heap.objs.size], _, _, H1, rfl, I1.kept (t' := s1.toks) fun b o e => Heap.get?_push_of_some _ e, turn_list a _, ⟨_, Heap.get?_push_size _ rfl, rfl, rfl⟩, fun b hb => ?_, q⟩
    have e : b = s1.heap.objs.size := by simpa using hb
    subst e
    exact I1.fpOk (Nat.le_refl _) (I1.hok.fresh (Nat.le_refl _))
  · obtain ⟨its, rv, p, hz⟩ := I1.tuple hq
    refine wpAny_pyIter_tuple (show s1.heap.IsTuple a its.toArray from p) ?_
    refine ⟨s1.heap.objs.size, [s1.heap.objs.size], _, _, H1, rfl, I1.kept (t' := s1.toks) fun b o e => Heap.get?_push_of_some _ e, turn_tuple a _, ⟨_, Heap.get?_push_size _ rfl, rfl, rfl⟩, fun b hb => ?_, q⟩
    have e : b = s1.heap.objs.size := by simpa using hb
    subst e
    exact I1.fpOk (Nat.le_refl _) (I1.hok.fresh (Nat.le_refl _))
/-- items by value alone -/
def valItems (d : D) : Option (List D) := match d with
  | .tup ds => some ds
  | .lst ds => some ds
  | .scr ds => some ds
  | _ => none
@[simp] theorem valItems_scr (ds : List D) : valItems (.scr ds) = some ds := rfl
@[simp] theorem valItems_tup (ds : List D) : valItems (.tup ds) = some ds := rfl
@[simp] theorem valItems_lst (ds : List D) : valItems (.lst ds) = some ds := rfl
@[simp] def iVal (m : Em) : Im := fun σ st => (m σ st).bind fun d st1 => match valItems d with
  | some ds => .ok ds st1
  | none => .bad
theorem wk_same {w0 : Wd} {J : It} {items : List D} {vs : List V} {G : Hp → Prop} (hw : Walk J vs.length G (YAt vs)) (ok : Ok K w0) (rs : Reps K w0 vs items) (hG : ∀ w, Step w0 w → Ok K w → G w.H) : Wk K w0 J items := by
  refine ⟨G, YAt vs, by rw [← rs.length]; exact hw, hG, fun i d w x H' hi s o y => ?_⟩
  obtain ⟨e1, e2⟩ := y
  obtain ⟨v, h1, h2⟩ := rs.get hi
  rw [e2] at h1; cases h1
  exact ⟨w, e1.symm, rfl, rfl, .refl _, o, h2.step s ok⟩
theorem si_val {e : Expr} {m : Em} (h : SE X W e m) : SI X W tg e (iVal m) := pi_imp (pi_seq h) fun σV H R q => by
  obtain ⟨w, σ, rfl, ok, sl, p⟩ := q
  refine ⟨w, σ, rfl, ok, sl, PR.bind ok p fun d st v mu H1 e1 s1 ok1 r1 p1 => ?_⟩
  cases r1 with
  | @tup a vs ds h ho hs => exact ⟨a, rfl, .inr ⟨vs, .inl h, PR.ret (w := ⟨mu, st, H1, w.op⟩) (R := fun w J items => Wk X.K w J items) ok1 p1 (wk_same (K := X.K) walk_tup ok1 hs fun w' s o => .inl (s.rdT ok1 h))⟩⟩
  | @ktup a vs ds h hs => exact ⟨a, rfl, .inr ⟨vs, h _, PR.ret (w := ⟨mu, st, H1, w.op⟩) (R := fun w J items => Wk X.K w J items) ok1 p1 (wk_same (K := X.K) walk_tup ok1 hs fun w' s o => h _)⟩⟩
  | @lst a vs ds h hl ho hs => exact ⟨a, rfl, .inl ⟨vs, .inl (.inl h), PR.ret (w := ⟨mu, st, H1, w.op⟩) (R := fun w J items => Wk X.K w J items) ok1 p1 (wk_same (K := X.K) walk_list ok1 hs fun w' s o => .inl (.inl (s.keep _ _ h hl)))⟩⟩
  | @kscr a vs ds h ht hs => exact ⟨a, rfl, .inl ⟨vs, h _, PR.ret (w := ⟨mu, st, H1, w.op⟩) (R := fun w J items => Wk X.K w J items) ok1 p1 (wk_same (K := X.K) walk_list ok1 hs fun w' s _ => h _)⟩⟩
  | @scr a o vs ds h hl ho hs => exact ⟨a, rfl, .inl ⟨vs, .inl (.inr ⟨o, h⟩), PR.ret (w := ⟨mu, st, H1, w.op⟩) (R := fun w J items => Wk X.K w J items) ok1 p1 (wk_same (K := X.K) walk_list ok1 hs fun w' s _ => .inl (.inr ⟨o, s.keep _ _ h hl⟩))⟩⟩
  | _ => exact p1.elim
/-- lo, lo + 1, .. -/
def intsL (lo : Int) (n : Nat) : List D := (List.range n).map fun i => .int (lo + (i : Nat))
theorem intsL_get {lo : Int} {n i : Nat} {d : D} (h : (intsL lo n)[i]? = some d) : i < n ∧ d = .int (lo + (i : Nat)) := by
  unfold intsL at h
  rw [List.getElem?_map] at h
  cases q : (List.range n)[i]? with
  | none => rw [q] at h; cases h
  | some j =>
    rw [q] at h
    obtain ⟨h1, h2⟩ := List.getElem?_eq_some_iff.mp q
    simp at h1 h2 h
    subst h2
    exact ⟨h1, h.symm⟩
theorem intsL_len (lo : Int) (n : Nat) : (intsL lo n).length = n := by simp [intsL]
theorem wk_range {w0 : Wd} {lo : Int} {n : Nat} : Wk K w0 (Itr lo n) (intsL lo n) := by
  refine ⟨fun _ => True, _, by rw [intsL_len]; exact walk_range, fun _ _ _ => trivial, fun i d w x H' hi s o y => ?_⟩
  obtain ⟨e1, e2⟩ := y
  obtain ⟨_, rfl⟩ := intsL_get hi
  subst e2
  exact ⟨w, e1.symm, rfl, rfl, .refl _, o, .int _⟩
def big (i : Int) : Bool := decide (-(2 ^ 62) ≤ i) && decide (i < 2 ^ 62)
@[simp] def iRange1 (m : Am) : Im := fun σ st => (m σ st).bind fun ds st1 => match ds with
  | [.int j] => if big j = true then .ok (intsL 0 j.toNat) st1 else .bad
  | _ => .bad
@[simp] def iRange2 (m : Am) : Im := fun σ st => (m σ st).bind fun ds st1 => match ds with
  | [.int i, .int j] => if (big i && big j) = true then .ok (intsL i (j - i).toNat) st1 else .bad
  | _ => .bad
theorem si_range1 {a : Expr} {m : Am} {p pos : Pos} (hm : X.mg "range" = none) (ha : SA X W [a] m) (hg : Gl X "range" := by rfl) (hs : starEach [a] X.env = [(false, eval a X.env)] := by rfl) : SI X W tg (.Call (.Name "range" p) [a] [] pos) (iRange1 m) :=
  pi_imp (pi_range1 hg hm ha hs) fun σV H R q => by
    obtain ⟨w, σ, rfl, ok, sl, p⟩ := q
    refine ⟨w, σ, rfl, ok, sl, PR.bind ok p fun ds st vs mu H1 e1 s1 ok1 r1 p1 => ?_⟩
    cases r1 with
    | nil => exact p1.elim
    | cons r t =>
      cases t with
      | cons _ _ => cases r <;> exact p1.elim
      | nil =>
        cases r with
        | int j =>
          simp only at p1
          by_cases hb : big j = true
          · rw [if_pos hb] at p1
            unfold big at hb
            simp only [Bool.and_eq_true, decide_eq_true_eq] at hb
            exact ⟨j, rfl, hb.1, hb.2, PR.ret (w := ⟨mu, st, H1, w.op⟩) (R := fun w J items => Wk X.K w J items) ok1 p1 wk_range⟩
          · rw [if_neg hb] at p1; exact p1.elim
        | _ => exact p1.elim
theorem si_range2 {a b : Expr} {m : Am} {p pos : Pos} (hm : X.mg "range" = none) (ha : SA X W [a, b] m) (hg : Gl X "range" := by rfl) (hs : starEach [a, b] X.env = [(false, eval a X.env), (false, eval b X.env)] := by rfl) (hs2 : starEach [b] X.env = [(false, eval b X.env)] := by rfl) : SI X W tg (.Call (.Name "range" p) [a, b] [] pos) (iRange2 m) :=
  pi_imp (pi_range2 hg hm ha hs hs2) fun σV H R q => by
    obtain ⟨w, σ, rfl, ok, sl, p⟩ := q
    refine ⟨w, σ, rfl, ok, sl, PR.bind ok p fun ds st vs mu H1 e1 s1 ok1 r1 p1 => ?_⟩
    by_cases hsh : ∃ i j, ds = [.int i, .int j]
    · obtain ⟨i, j, rfl⟩ := hsh
      cases r1 with
      | cons r t =>
        cases t with
        | cons r2 t2 =>
          cases t2
          cases r
          cases r2
          simp only at p1
          by_cases hb : (big i && big j) = true
          · rw [if_pos hb] at p1
            unfold big at hb
            simp only [Bool.and_eq_true, decide_eq_true_eq] at hb
            exact ⟨i, j, rfl, ⟨hb.1.1, hb.1.2, hb.2.1, hb.2.2⟩, PR.ret (w := ⟨mu, st, H1, w.op⟩) (R := fun w J items => Wk X.K w J items) ok1 p1 wk_range⟩
          · rw [if_neg hb] at p1; exact p1.elim
    · exfalso
      revert p1
      split <;> first | (rename_i i j; exact fun _ => hsh ⟨i, j, rfl⟩) | exact fun z => z
/-- new pairs -/
theorem wk_pairs {w0 : Wd} {J : It} {n : Nat} {G : Hp → Prop} {xs ys : Nat → Option V} {items : List D} (hn : items.length = n) (hw : Walk J n G (YPair xs ys)) (hG : ∀ w, Step w0 w → Ok K w → G w.H)
    (hi : ∀ i d x y, items[i]? = some d → xs i = some x → ys i = some y → ∃ a b, d = .tup [a, b] ∧ ∀ w, Step w0 w → Ok K w → Rep K w x a ∧ Rep K w y b) : Wk K w0 J items := by
  refine ⟨G, _, by rw [hn]; exact hw, hG, fun i d w v H' hd s o y => ?_⟩
  obtain ⟨T, x, y, rfl, hT, rfl, h1, h2⟩ := y
  obtain ⟨a, b, rfl, h3⟩ := hi i d x y hd h1 h2
  obtain ⟨r1, r2⟩ := h3 w s o
  exact ⟨w.put T (.tup [x, y]), rfl, rfl, rfl, put_step hT, put_ok o hT, rep_new_tup o hT (.cons r1 (.cons r2 .nil))⟩
def enumD : Nat → List D → List D
  | _, [] => []
  | n, d :: ds => .tup [.int (n : Nat), d] :: enumD (n + 1) ds
theorem enumD_len : ∀ (n : Nat) (ds : List D), (enumD n ds).length = ds.length
  | _, [] => rfl
  | n, _ :: ds => congrArg Nat.succ (enumD_len (n + 1) ds)
theorem enumD_get : ∀ (n : Nat) (ds : List D) (i : Nat) (d : D), (enumD n ds)[i]? = some d → ∃ e, ds[i]? = some e ∧ d = .tup [.int ((n + i : Nat) : Int), e]
  | _, [], i, d, h => by simp [enumD] at h
  | n, e :: ds, 0, d, h => by
    have h : (D.tup [.int (n : Nat), e]) = d := by simpa [enumD] using h
    exact ⟨e, rfl, h.symm⟩
  | n, e :: ds, i + 1, d, h => by
    obtain ⟨x, h1, h2⟩ := enumD_get (n + 1) ds i d (by simpa [enumD] using h)
    exact ⟨x, by simpa using h1, by rw [h2, show n + 1 + i = n + (i + 1) by omega]⟩
def zipD : List D → List D → List D
  | a :: as, b :: bs => .tup [a, b] :: zipD as bs
  | _, _ => []
theorem zipD_len : ∀ (as bs : List D), (zipD as bs).length = min as.length bs.length
  | [], _ => by simp [zipD]
  | _ :: _, [] => by simp [zipD]
  | _ :: as, _ :: bs => by
    simp only [zipD, List.length_cons, zipD_len as bs]
    omega
theorem zipD_get : ∀ (as bs : List D) (i : Nat) (d : D), (zipD as bs)[i]? = some d → ∃ a b, as[i]? = some a ∧ bs[i]? = some b ∧ d = .tup [a, b]
  | [], _, i, d, h => by simp [zipD] at h
  | _ :: _, [], i, d, h => by simp [zipD] at h
  | a :: as, b :: bs, 0, d, h => by
    have h : (D.tup [a, b]) = d := by simpa [zipD] using h
    exact ⟨a, b, rfl, rfl, h.symm⟩
  | a :: as, b :: bs, i + 1, d, h => by
    obtain ⟨x, y, h1, h2, h3⟩ := zipD_get as bs i d (by simpa [zipD] using h)
    exact ⟨x, y, by simpa using h1, by simpa using h2, h3⟩
@[simp] def iEnumM (m : Am) : Im := fun σ st => (m σ st).bind fun ds st1 => match ds with
  | [.lst xs] => .ok (enumD 0 xs) st1
  | _ => .bad
theorem si_enum {e : Expr} {m : Am} {p pos tpos : Pos} {elts : List Expr} {kk : Nat} (hm : X.mg "enumerate" = none) (ha : SA X W [e] m) (hg : Gl X "enumerate" := by rfl) (hs : starEach [e] X.env = [(false, eval e X.env)] := by rfl) :
    SI X W (.Tuple elts kk tpos) (.Call (.Name "enumerate" p) [e] [] pos) (iEnumM m) :=
  pi_imp (pi_enum hg hm ha hs) fun σV H R q => by
    obtain ⟨w, σ, rfl, ok, sl, p⟩ := q
    refine ⟨w, σ, rfl, ok, sl, PR.bind ok p fun ds st vs mu H1 e1 s1 ok1 r1 p1 => ?_⟩
    by_cases hsh : ∃ xs, ds = [.lst xs]
    · obtain ⟨xs, rfl⟩ := hsh
      cases r1 with
      | cons r t =>
        cases t
        cases r with
        | @lst a us _ h hl ho hs =>
          refine ⟨a, us, rfl, .inl (.inl h), PR.ret (w := ⟨mu, st, H1, w.op⟩) (R := fun w J items => Wk X.K w J items) ok1 p1 (wk_pairs (by rw [enumD_len, hs.length]) walk_enum (fun w' s o => .inl (.inl (s.keep _ _ h hl))) fun i d x y hd hx hy => ?_)⟩
          obtain ⟨e, h1, h2⟩ := enumD_get 0 xs i d hd
          obtain ⟨u, h3, h4⟩ := hs.get h1
          rw [h3] at hy; cases hy
          cases hx
          refine ⟨.int (i : Nat), e, by rw [h2, Nat.zero_add], fun w' s o => ⟨.int _, h4.step s ok1⟩⟩
    · exfalso
      revert p1
      split <;> first | (rename_i xs; exact fun _ => hsh ⟨xs, rfl⟩) | exact fun z => z
@[simp] def iZipM (m : Am) : Im := fun σ st => (m σ st).bind fun ds st1 => match ds with
  | [.lst xs, .lst ys] => .ok (zipD xs ys) st1
  | [.tup xs, .tup ys] => .ok (zipD xs ys) st1
  | _ => .bad
theorem walk_zipT {a b : Addr} {xs ys : List V} {n : Nat} (hn : n = min xs.length ys.length) : Walk (ItzT K a b) n (fun H => SqT K H a xs ∧ SqT K H b ys) (YPair (fun i => xs[i]?) (fun i => ys[i]?)) := by
  subst hn
  refine ⟨fun i _ hi q => ?_, fun _ q => ⟨xs, ys, q.1, q.2, by omega⟩, fun i H v H' _ q y => ?_⟩
  · have h1 : i < xs.length := by omega
    have h2 : i < ys.length := by omega
    exact ⟨xs, ys, xs[i], ys[i], q.1, q.2, by simp [h1], by simp [h2]⟩
  · obtain ⟨T, x, z, h1, h2, h3, h4, h5⟩ := y
    exact ⟨T, x, z, h1, h2, h3, h4 xs q.1, h5 ys q.2⟩
/-- a tuple's contents -/
theorem tup_ok {w : Wd} {v : V} {ds : List D} (r : Rep K w v (.tup ds)) (ok : Ok K w) : ∃ a vs, v = .ref a ∧ Reps K w vs ds ∧ ∀ w', Step w w' → SqT K w'.H a vs := by
  cases r with
  | tup h ho hs => exact ⟨_, _, rfl, hs, fun w' s => .inl (s.rdT ok h)⟩
  | ktup h hs => exact ⟨_, _, rfl, hs, fun w' s => h _⟩
theorem zip_items {w1 : Wd} {us vs : List V} {xs ys : List D} (ok1 : Ok K w1) (r1 : Reps K w1 us xs) (r2 : Reps K w1 vs ys) (i : Nat) (d : D) (x y : V) (hd : (zipD xs ys)[i]? = some d) (hx : us[i]? = some x) (hy : vs[i]? = some y) :
    ∃ a b, d = .tup [a, b] ∧ ∀ w, Step w1 w → Ok K w → Rep K w x a ∧ Rep K w y b := by
  obtain ⟨a, b, h1, h2, h3⟩ := zipD_get xs ys i d hd
  obtain ⟨x', e1, q1⟩ := r1.get h1
  obtain ⟨y', e2, q2⟩ := r2.get h2
  rw [hx] at e1; cases e1
  rw [hy] at e2; cases e2
  exact ⟨a, b, h3, fun w s o => ⟨q1.step s ok1, q2.step s ok1⟩⟩
theorem si_zip {e e2 : Expr} {m : Am} {p pos tpos : Pos} {elts : List Expr} {kk : Nat} (hm : X.mg "zip" = none) (ha : SA X W [e, e2] m) (hg : Gl X "zip" := by rfl) (hs : starEach [e, e2] X.env = (false, eval e X.env) :: starEach [e2] X.env := by rfl) (hs2 : (backTo pos (starEach [e2] X.env)).any (·.1) = false := by rfl) :
    SI X W (.Tuple elts kk tpos) (.Call (.Name "zip" p) [e, e2] [] pos) (iZipM m) :=
  pi_imp (pi_zipA hg hm ha hs hs2) fun σV H R q => by
    obtain ⟨w, σ, rfl, ok, sl, p⟩ := q
    refine ⟨w, σ, rfl, ok, sl, PR.bind ok p fun ds st vs mu H1 e1 s1 ok1 r1 p1 => ?_⟩
    by_cases hsh : ∃ xs ys, ds = [.lst xs, .lst ys]
    · obtain ⟨xs, ys, rfl⟩ := hsh
      cases r1 with
      | cons r t =>
        cases t with
        | cons r2 t2 =>
          cases t2
          cases r with
          | @lst a us _ h hl ho hs =>
            cases r2 with
            | @lst b vs _ h' hl' ho' hs' =>
              exact ⟨a, b, us, vs, rfl, .inl ⟨.inl (.inl h), .inl (.inl h'), PR.ret (w := ⟨mu, st, H1, w.op⟩) (R := fun w J items => Wk X.K w J items) ok1 p1 (wk_pairs (by rw [zipD_len, hs.length, hs'.length]) (walk_zip rfl) (fun w' s o => ⟨.inl (.inl (s.keep _ _ h hl)), .inl (.inl (s.keep _ _ h' hl'))⟩) (zip_items ok1 hs hs'))⟩⟩
    · by_cases hsh2 : ∃ xs ys, ds = [.tup xs, .tup ys]
      · obtain ⟨xs, ys, rfl⟩ := hsh2
        cases r1 with
        | cons r t =>
          cases t with
          | cons r2 t2 =>
            cases t2
            obtain ⟨a, us, rfl, hs, h⟩ := tup_ok r ok1
            obtain ⟨b, vs, rfl, hs', h'⟩ := tup_ok r2 ok1
            exact ⟨a, b, us, vs, rfl, .inr ⟨h _ (.refl _), h' _ (.refl _), PR.ret (w := ⟨mu, st, H1, w.op⟩) (R := fun w J items => Wk X.K w J items) ok1 p1 (wk_pairs (by rw [zipD_len, hs.length, hs'.length]) (walk_zipT rfl) (fun w' s o => ⟨h _ s, h' _ s⟩) (zip_items ok1 hs hs'))⟩⟩
      · exfalso
        revert p1
        split <;> first | (rename_i xs ys; exact fun _ => hsh ⟨xs, ys, rfl⟩) | (rename_i xs ys; exact fun _ => hsh2 ⟨xs, ys, rfl⟩) | exact fun z => z
@[simp] def iRevM (m : Em) : Im := fun σ st => (m σ st).bind fun d st1 => match valItems d with
  | some ds => .ok ds.reverse st1
  | none => .bad
theorem wk_rev {w0 : Wd} {J : It} {items : List D} {vs : List V} {G : Hp → Prop} (hw : Walk J vs.length G (fun i H x H' => H' = H ∧ vs[vs.length - 1 - i]? = some x)) (ok : Ok K w0) (rs : Reps K w0 vs items) (hG : ∀ w, Step w0 w → Ok K w → G w.H) : Wk K w0 J items.reverse := by
  refine ⟨G, _, by rw [List.length_reverse, ← rs.length]; exact hw, hG, fun i d w x H' hi s o y => ?_⟩
  obtain ⟨e1, e2⟩ := y
  have hlt : i < items.length := by
    have := (List.getElem?_eq_some_iff.mp hi).1
    simpa using this
  rw [List.getElem?_reverse hlt] at hi
  obtain ⟨v, h1, h2⟩ := rs.get hi
  rw [← rs.length] at h1
  rw [e2] at h1; cases h1
  exact ⟨w, e1.symm, rfl, rfl, .refl _, o, h2.step s ok⟩
theorem walk_revT {a : Addr} {xs : List V} : Walk (ItvT K a xs.length) xs.length (fun H => SqT K H a xs) (fun i H x H' => H' = H ∧ xs[xs.length - 1 - i]? = some x) :=
  ⟨fun i _ hi q => ⟨hi, xs, xs[xs.length - 1 - i]'(by omega), q, by simp [show xs.length - 1 - i < xs.length by omega]⟩, fun _ _ => Nat.le_refl _, fun _ _ _ _ _ q y => ⟨y.1, y.2 xs q⟩⟩
theorem si_rev {e : Expr} {m : Em} {p pos : Pos} (hm : X.mg "reversed" = none) (ha : SE X W e m) (hg : Gl X "reversed" := by rfl) (hs : starEach [e] X.env = [(false, eval e X.env)] := by rfl) :
    SI X W tg (.Call (.Name "reversed" p) [e] [] pos) (iRevM m) :=
  pi_imp (pi_revA hg hm ha hs) fun σV H R q => by
    obtain ⟨w, σ, rfl, ok, sl, p⟩ := q
    refine ⟨w, σ, rfl, ok, sl, PR.bind ok p fun d st v mu H1 e1 s1 ok1 r1 p1 => ?_⟩
    cases r1 with
    | @tup a vs ds h ho hs => exact ⟨a, vs, rfl, .inr ⟨.inl h, PR.ret (w := ⟨mu, st, H1, w.op⟩) (R := fun w J items => Wk X.K w J items) ok1 p1 (wk_rev (K := X.K) walk_revT ok1 hs fun w' s o => .inl (s.rdT ok1 h))⟩⟩
    | @ktup a vs ds h hs => exact ⟨a, vs, rfl, .inr ⟨h _, PR.ret (w := ⟨mu, st, H1, w.op⟩) (R := fun w J items => Wk X.K w J items) ok1 p1 (wk_rev (K := X.K) walk_revT ok1 hs fun w' s o => h _)⟩⟩
    | @lst a vs ds h hl ho hs => exact ⟨a, vs, rfl, .inl ⟨.inl (.inl h), PR.ret (w := ⟨mu, st, H1, w.op⟩) (R := fun w J items => Wk X.K w J items) ok1 p1 (wk_rev (K := X.K) walk_rev ok1 hs fun w' s o => .inl (.inl (s.keep _ _ h hl)))⟩⟩
    | @kscr a vs ds h ht hs => exact ⟨a, vs, rfl, .inl ⟨h _, PR.ret (w := ⟨mu, st, H1, w.op⟩) (R := fun w J items => Wk X.K w J items) ok1 p1 (wk_rev (K := X.K) walk_rev ok1 hs fun w' s _ => h _)⟩⟩
    | @scr a o vs ds h hl ho hs => exact ⟨a, vs, rfl, .inl ⟨.inl (.inr ⟨o, h⟩), PR.ret (w := ⟨mu, st, H1, w.op⟩) (R := fun w J items => Wk X.K w J items) ok1 p1 (wk_rev (K := X.K) walk_rev ok1 hs fun w' s _ => .inl (.inr ⟨o, s.keep _ _ h hl⟩))⟩⟩
    | _ => exact p1.elim

/-! ### for -/
def forM (f : D → Sl → Sto → RS) : List D → Sl → Sto → RS
  | [], σ, st => .nx σ st
  | d :: ds, σ, st => match f d σ st with
    | .nx σ' st' => forM f ds σ' st'
    | .ct σ' st' => forM f ds σ' st'
    | .bk σ' st' => .nx σ' st'
    | .rt d' st' => .rt d' st'
    | .exc x σ' st' => .exc x σ' st'
    | .bad => .bad
def inTurn (g : Gm) (b : Sm) : D → Sl → Sto → RS := fun d σ st => match g d σ with
  | some σ' => b σ' st
  | none => .bad
@[simp] def sFor (im : Im) (g : Gm) (b : Sm) : Sm := fun σ st => (im σ st).toRS σ fun items st1 => forM (inTurn g b) items σ st1
theorem ss_for {iter : Expr} {body : List Stmt} {im : Im} {g : Gm} {b : Sm} {pos : Pos} (hp : PassesOwn (model X.prog X.w) X.A X.env X.xe) (hc : X.calm = true) (hi : SI X W tg iter im) (hg : SG X tg g) (hb : SSs X W body b)
    (hs : ∀ x, foldedSetIterable iter X.env x = pure x := by intro _; rfl) : SS X W (.For tg iter body [] pos) (sFor im g b) := by
  obtain ⟨g1, p1, k1⟩ := hg
  refine ps_imp (ps_for hp hc hi p1 hb hs) fun D σV H q => ?_
  obtain ⟨w, σ, rfl, ok, sl, p⟩ := q
  refine ⟨w, σ, rfl, ok, sl, PSr.toR ok sl p fun items st J mu H1 e1 s1 ok1 wk p2 => ?_⟩
  obtain ⟨G, Y, hw, hG, hY⟩ := wk
  refine for_it hw (fun i σV H => ∃ w2 σ2, w2.H = H ∧ Ok X.K w2 ∧ Slots X.K w2 σ2 σV ∧ Step ⟨mu, st, H1, w.op⟩ w2 ∧ PSr X.K w2 (forM (inTurn g b) (items.drop i) σ2 w2.st) D W) ?_ ?_ ?_ ?_
  · exact ⟨⟨mu, st, H1, w.op⟩, σ, rfl, ok1, sl.step s1 ok, .refl _, p2⟩
  · rintro i σV' H' hi ⟨w2, σ2, rfl, ok2, sl2, s2, p3⟩
    exact hG w2 s2 ok2
  · rintro i x σV' H' H2 hi ⟨w2, σ2, rfl, ok2, sl2, s2, p3⟩ y
    have hi2 : i < items.length := hi
    obtain ⟨w3, rfl, est, eop, s3, ok3, r3⟩ := hY i items[i] w2 x H2 (by simp [hi2]) s2 ok2 y
    rw [List.drop_eq_getElem_cons hi2] at p3
    unfold forM inTurn at p3
    cases q : g items[i] σ2 with
    | none => simp only [q] at p3; exact p3.elim
    | some σ3 =>
      simp only [q] at p3
      refine k1 w3 x items[i] σ2 σ3 σV' _ ok3 r3 (sl2.step s3 ok2) q fun σV3 sl3 => ⟨w3, σ3, rfl, ok3, sl3, ?_⟩
      have p4 := PSr.step s3 ok2 p3 eop
      rw [← est] at p4
      cases e3 : b σ3 w3.st with
      | nx σ4 st4 =>
        simp only [e3] at p4
        exact fun σV4 mu4 H4 s4 ok4 sl4 => ⟨⟨mu4, st4, H4, w3.op⟩, σ4, rfl, ok4, sl4, (s2.trans s3 (by exact ok1)).trans s4 (by exact ok1), PSr.step s4 ok3 p4⟩
      | ct σ4 st4 =>
        simp only [e3] at p4
        exact fun σV4 mu4 H4 s4 ok4 sl4 => ⟨⟨mu4, st4, H4, w3.op⟩, σ4, rfl, ok4, sl4, (s2.trans s3 (by exact ok1)).trans s4 (by exact ok1), PSr.step s4 ok3 p4⟩
      | bk σ4 st4 => simp only [e3] at p4; exact p4
      | rt d4 st4 => simp only [e3] at p4; exact p4
      | exc x4 σ4 st4 => simp only [e3] at p4; exact p4
      | bad => simp only [e3] at p4; exact p4.elim
  · rintro σV' H' ⟨w2, σ2, rfl, ok2, sl2, s2, p3⟩
    rw [List.drop_length] at p3
    exact PSr.ret ok2 p3 sl2
/-! ### while -/
def whileM (c : Tm) (b : Sm) : Nat → Sl → Sto → RS
  | 0, _, _ => .bad
  | n + 1, σ, st => match c σ st with
    | .ok true st1 => (match b σ st1 with
      | .nx σ' st' => whileM c b n σ' st'
      | .ct σ' st' => whileM c b n σ' st'
      | .bk σ' st' => .nx σ' st'
      | .rt d' st' => .rt d' st'
      | .exc x σ' st' => .exc x σ' st'
      | .bad => .bad)
    | .ok false st1 => .nx σ st1
    | .exc x st1 => .exc x σ st1
    | .bad => .bad
/-- f: more than the turns, from the slots -/
def sWhile (f : Sl → Nat) (c : Tm) (b : Sm) : Sm := fun σ st => whileM c b (f σ) σ st
theorem ss_while {c : Expr} {body : List Stmt} {f : Sl → Nat} {t : Tm} {b : Sm} {pos : Pos} (hp : PassesOwn (model X.prog X.w) X.A X.env X.xe) (hc : ST X W c t) (hb : SSs X W body b) : SS X W (.While c body [] pos) (sWhile f t b) := by
  refine ps_imp (ps_while hp hc hb) fun D σV H q => ?_
  obtain ⟨w, σ, rfl, ok, sl, p⟩ := q
  refine ⟨fun m σV H => ∃ w2 σ2, w2.H = H ∧ Ok X.K w2 ∧ Slots X.K w2 σ2 σV ∧ PSr X.K w2 (whileM t b m σ2 w2.st) D W, ⟨f σ, w, σ, rfl, ok, sl, p⟩, ?_⟩
  rintro m σV2 H2 ⟨w2, σ2, rfl, ok2, sl2, p2⟩
  cases m with
  | zero => exact p2.elim
  | succ n =>
    refine ⟨w2, σ2, rfl, ok2, sl2, ?_⟩
    unfold whileM at p2
    cases e1 : t σ2 w2.st with
    | bad => simp only [e1] at p2; exact p2.elim
    | exc x st1 =>
      simp only [e1] at p2
      exact fun c dd mu H t o q => p2 c dd σV2 mu H t o (sl2.step t ok2) q
    | ok c1 st1 =>
      intro cb mu H3 s3 ok3 ec
      subst ec
      simp only [e1] at p2
      have p3 := PSr.step s3 ok2 p2
      cases cb with
      | false =>
        simp only at p3
        exact (if_neg Bool.false_ne_true).mpr (PSr.ret (w := ⟨mu, st1, H3, w2.op⟩) ok3 p3 (sl2.step s3 ok2))
      | true =>
        simp only at p3
        refine (if_pos rfl).mpr ⟨fun σV4 H4 => ∃ m', m' < n + 1 ∧ ∃ w4 σ4, w4.H = H4 ∧ Ok X.K w4 ∧ Slots X.K w4 σ4 σV4 ∧ PSr X.K w4 (whileM t b m' σ4 w4.st) D W, fun σ' H' h => h, ⟨mu, st1, H3, w2.op⟩, σ2, rfl, ok3, sl2.step s3 ok2, ?_⟩
        show PSr _ _ (b σ2 st1) _ _
        cases e3 : b σ2 st1 with
        | nx σ4 st4 =>
          simp only [e3] at p3
          exact fun σV4 mu4 H4 s4 ok4 sl4 => ⟨n, Nat.lt_succ_self _, ⟨mu4, st4, H4, w2.op⟩, σ4, rfl, ok4, sl4, PSr.step s4 ok3 p3⟩
        | ct σ4 st4 =>
          simp only [e3] at p3
          exact fun σV4 mu4 H4 s4 ok4 sl4 => ⟨n, Nat.lt_succ_self _, ⟨mu4, st4, H4, w2.op⟩, σ4, rfl, ok4, sl4, PSr.step s4 ok3 p3⟩
        | bk σ4 st4 => simp only [e3] at p3; exact p3
        | rt d4 st4 => simp only [e3] at p3; exact p3
        | exc x4 σ4 st4 => simp only [e3] at p3; exact p3
        | bad => simp only [e3] at p3; exact p3.elim
end
end Sim

set_option Elab.async false
set_option linter.all false
set_option maxRecDepth 100000
set_option maxHeartbeats 4000000
/-! comprehensions, built-in calls, methods of lists -/
namespace Sim
open PySem PySem.Spec PyProof.Rows L2

/-! ### list comprehensions -/
def wipeD (σ : Sl) : List Nat → Sl
  | [] => σ
  | v :: vs => (wipeD σ vs).set v none
theorem Slots.wipe {K : Frag} {w : Wd} {σ : Sl} {σV : L2.St} (h : Slots K w σ σV) : ∀ own : List Nat, Slots K w (wipeD σ own) (L2.wipe σV own)
  | [] => h
  | v :: vs => (Slots.wipe h vs).del v none
/-- what a target does to the slots: those of own alone -/
def GRel (K : Frag) (own : List Nat) (g : TG) (gm : Gm) : Prop := ∀ (w : Wd) (v : V) (d : D) (σ σ' : Sl) (σV : L2.St) (Q : L2.St → Hp → Prop), Ok K w → Rep K w v d → Slots K w σ σV → gm d σ = some σ' → (∀ σV', Slots K w σ' σV' → L2.wipe σV' own = L2.wipe σV own → Q σV' w.H) → g v σV w.H Q
def GRels (K : Frag) (own : List Nat) (g : TGs) (gm : Gms) : Prop := ∀ (w : Wd) (vs : List V) (ds : List D) (σ σ' : Sl) (σV : L2.St) (Q : L2.St → Hp → Prop), Ok K w → Reps K w vs ds → Slots K w σ σV → gm ds σ = some σ' → (∀ σV', Slots K w σ' σV' → L2.wipe σV' own = L2.wipe σV own → Q σV' w.H) → g vs σV w.H Q
theorem wipe_set {σ : L2.St} {i : Nat} {x : Option V} : ∀ {own : List Nat}, i ∈ own → L2.wipe (σ.set i x) own = L2.wipe σ own
  | v :: vs, h => by
    unfold L2.wipe
    by_cases e : i = v
    · subst e
      by_cases m : i ∈ vs
      · rw [wipe_set m]
      · have q : ∀ {τ : L2.St} {ws : List Nat}, i ∉ ws → L2.wipe (τ.set i x) ws = (L2.wipe τ ws).set i x := by
          intro τ ws
          induction ws with
          | nil => intro _; rfl
          | cons u us ih =>
            intro hu
            unfold L2.wipe
            rw [ih (fun z => hu (List.mem_cons_of_mem _ z)), List.set_comm _ _ (fun z => hu (by rw [z]; exact List.mem_cons_self))]
        rw [q m, List.set_set]
    · have m : i ∈ vs := by
        rcases List.mem_cons.mp h with z | z
        · exact absurd z e
        · exact z
      rw [wipe_set m]
theorem grel_name {K : Frag} {own : List Nat} {i : Nat} (hi : i ∈ own) : GRel K own (gName i) (gN i) := fun w v d σ σ' σV Q ok r sl e k => by
  cases e
  exact k _ (sl.set r i) (wipe_set hi)
theorem grels_nil {K : Frag} {own : List Nat} : GRels K own gNil gsNil := fun w vs ds σ σ' σV Q ok r sl e k => by
  cases r with
  | nil => cases e; exact ⟨rfl, k _ sl rfl⟩
  | cons _ _ => cases e
theorem grels_cons {K : Frag} {own : List Nat} {g : TG} {gm : Gm} {gs : TGs} {gms : Gms} (h1 : GRel K own g gm) (h2 : GRels K own gs gms) : GRels K own (gCons g gs) (gsCons gm gms) := fun w vs ds σ σ' σV Q ok r sl e k => by
  cases r with
  | nil => cases e
  | @cons v d vs ds r rs =>
    simp only [gsCons] at e
    cases q : gm d σ with
    | none => rw [q] at e; cases e
    | some σ1 =>
      rw [q] at e
      exact ⟨v, vs, rfl, h1 w v d σ σ1 σV _ ok r sl q fun σV1 sl1 e1 => h2 w vs ds σ1 σ' σV1 Q ok rs sl1 e fun σV2 sl2 e2 => k σV2 sl2 (e2.trans e1)⟩
theorem grel_tup {K : Frag} {own : List Nat} {g : TGs} {gs : Gms} {n : Nat} (h : GRels K own g gs) : GRel K own (gTup K n g) (gT n gs) := fun w v d σ σ' σV Q ok r sl e k => by
  cases r with
  | tup h0 ho hs =>
    simp only [gT] at e
    split at e
    · rename_i hl
      exact ⟨_, _, rfl, .inl h0, by rw [hs.length]; exact hl, h w _ _ σ σ' σV Q ok hs sl e k⟩
    · cases e
  | ktup h0 hs =>
    simp only [gT] at e
    split at e
    · rename_i hl
      exact ⟨_, _, rfl, h0 _, by rw [hs.length]; exact hl, h w _ _ σ σ' σV Q ok hs sl e k⟩
    · cases e
  | _ => cases e
/-- item by item -/
def compM (f : D → Sto → Res (Option D)) : List D → Sto → Res (List D)
  | [], st => .ok [] st
  | d :: ds, st => match f d st with
    | .ok (some y) st1 => (match compM f ds st1 with
      | .ok ys st2 => .ok (y :: ys) st2
      | _ => .bad)
    | .ok none st1 => compM f ds st1
    | _ => .bad
/-- nothing is raised in it -/
@[simp] def Res.noX {α : Type} (r : Res α) : Res α := match r with
  | .ok a st => .ok a st
  | _ => .bad
def compF (own : List Nat) (g : Gm) (t : Tm) (e : Em) (σ : Sl) : D → Sto → Res (Option D) := fun d st => match g d (wipeD σ own) with
  | some σ2 => (match t σ2 st with
    | .ok true st2 => (match e σ2 st2 with
      | .ok y st3 => .ok (some y) st3
      | _ => .bad)
    | .ok false st2 => .ok none st2
    | _ => .bad)
  | none => .bad
@[simp] def tTrue : Tm := fun _ st => .ok true st
def eComp (k : Bool) (own : List Nat) (im : Im) (g : Gm) (t : Tm) (e : Em) : Em := fun σ st => (im σ st).bind fun items st1 => (compM (compF own g t e σ) items st1).bind fun ys st2 => mkL k ys st2
abbrev W0 : WX := fun _ _ _ _ => False
def hide (H : Hp) (a : Addr) : Hp := fun b => if b = a then none else H b
theorem hide_same {H : Hp} {a : Addr} : hide H a a = none := by unfold hide; rw [if_pos rfl]
theorem hide_ne {H : Hp} {a b : Addr} (h : b ≠ a) : hide H a b = H b := by unfold hide; rw [if_neg h]
theorem upd_hide {H : Hp} {a : Addr} {o : HO} (h : H a = some o) : upd (hide H a) a o = H := by
  funext b
  unfold upd hide
  by_cases e : b = a
  · rw [if_pos e, e, h]
  · rw [if_neg e, if_neg e]
section
variable {K : Frag}
/-- D is there, and nothing leads to it -/
def Wd.opn (w : Wd) (a : Addr) (o : HO) : Wd := ⟨w.mu, w.st, upd w.H a o, a :: w.op⟩
def Wd.cls (w : Wd) (a : Addr) (op : List Addr) : Wd := ⟨w.mu, w.st, hide w.H a, op⟩
theorem opn_step {w : Wd} {a : Addr} {o : HO} (h : w.H a = none) : Step w (w.opn a o) := by
  obtain ⟨h1, h2, h3, h4, h5, _⟩ := put_step (w := w) (o := o) h
  exact ⟨h1, h2, h3, h4, h5, ⟨[a], rfl, fun b hb => by rw [List.mem_singleton.mp hb]; exact h⟩⟩
theorem opn_ok {w : Wd} {a : Addr} {o : HO} (ok : Ok K w) (h : w.H a = none) : Ok K (w.opn a o) := by
  have p := put_ok (o := o) ok h
  refine ⟨p.len, p.nd, p.has, fun b hb => ?_, fun n b u h1 h2 => ?_, p.tab⟩
  · rcases List.mem_cons.mp hb with z | z
    · rw [z]; exact ⟨ok.notMem h, by show upd w.H a o a ≠ none; rw [upd_same]; simp⟩
    · exact p.opn b z
  · have q : b ≠ a := fun z => ok.notMem h (z ▸ List.mem_of_getElem? h1)
    exact (ok.obj n b u h1 h2).step (opn_step h) ok (upd_ne q)
section
variable {w : Wd} {a : Addr} {op : List Addr}
mutual
theorem Rep.cls : ∀ {v : V} {d : D}, Rep K w v d → w.op = a :: op → Rep K (w.cls a op) v d
  | _, _, .non, _ => .non
  | _, _, .bl b, _ => .bl b
  | _, _, .int i, _ => .int i
  | _, _, .str s, _ => .str s
  | _, _, .ty n, _ => .ty n
  | _, _, @Rep.tup _ _ b _ _ h ho hs, e => by
    rw [e] at ho
    have q : b ≠ a := fun z => ho (by rw [z]; exact List.mem_cons_self)
    refine .tup ?_ (fun z => ho (List.mem_cons_of_mem _ z)) (Reps.cls hs e)
    rcases h with h | ⟨o, h⟩
    · exact .inl ((hide_ne q).trans h)
    · exact .inr ⟨o, (hide_ne q).trans h⟩
  | _, _, .ktup h hs, e => .ktup h (Reps.cls hs e)
  | _, _, @Rep.lst _ _ b _ _ h hl ho hs, e => by
    rw [e] at ho
    have q : b ≠ a := fun z => ho (by rw [z]; exact List.mem_cons_self)
    exact .lst ((hide_ne q).trans h) hl (fun z => ho (List.mem_cons_of_mem _ z)) (Reps.cls hs e)
  | _, _, .kscr h ht hs, e => .kscr h ht (Reps.cls hs e)
  | _, _, @Rep.scr _ _ b _ _ _ h hl ho hs, e => by
    rw [e] at ho
    have q : b ≠ a := fun z => ho (by rw [z]; exact List.mem_cons_self)
    exact .scr ((hide_ne q).trans h) hl (fun z => ho (List.mem_cons_of_mem _ z)) (Reps.cls hs e)
  | _, _, @Rep.ins _ _ b _ _ _ _ h hl ho hs hc, e => by
    rw [e] at ho
    have q : b ≠ a := fun z => ho (by rw [z]; exact List.mem_cons_self)
    exact .ins ((hide_ne q).trans h) hl (fun z => ho (List.mem_cons_of_mem _ z)) (RepF.cls hs e) hc
  | _, _, @Rep.exo _ _ b dx _ _ _ h h2 hl hl2 ho ho2 hs hc, e => by
    rw [e] at ho ho2
    have q : b ≠ a := fun z => ho (by rw [z]; exact List.mem_cons_self)
    have q2 : dx ≠ a := fun z => ho2 (by rw [z]; exact List.mem_cons_self)
    exact .exo ((hide_ne q).trans h) ((hide_ne q2).trans h2) hl hl2 (fun z => ho (List.mem_cons_of_mem _ z)) (fun z => ho2 (List.mem_cons_of_mem _ z)) (RepF.cls hs e) hc
  | _, _, .ref h, _ => .ref h
theorem Reps.cls : ∀ {vs : List V} {ds : List D}, Reps K w vs ds → w.op = a :: op → Reps K (w.cls a op) vs ds
  | _, _, .nil, _ => .nil
  | _, _, .cons r t, e => .cons (Rep.cls r e) (Reps.cls t e)
theorem RepF.cls : ∀ {vs : List (Str × V)} {ds : List (Str × D)}, RepF K w vs ds → w.op = a :: op → RepF K (w.cls a op) vs ds
  | _, _, .nil, _ => .nil
  | _, _, .cons r t, e => .cons (Rep.cls r e) (RepF.cls t e)
end
theorem cls_ok (ok : Ok K w) (e : w.op = a :: op) (ha : a ∉ op) {vs : List V} (hv : w.H a = some (.lst vs)) : Ok K (w.cls a op) := by
  have nm : a ∉ w.mu := (ok.opn a (by rw [e]; exact List.mem_cons_self)).1
  refine ⟨ok.len, ok.nd, fun b hb => ?_, fun b hb => ?_, fun n b u h1 h2 => ?_, tabs_mv ok.tab hv (fun _ z => nomatch z) lst_ne_code fun b hb => hide_ne hb⟩
  · have q : b ≠ a := fun z => nm (z ▸ hb)
    obtain ⟨o, h⟩ := ok.has b hb
    exact ⟨o, (hide_ne q).trans h⟩
  · have q : b ≠ a := fun z => ha (z ▸ hb)
    obtain ⟨h1, h2⟩ := ok.opn b (by rw [e]; exact List.mem_cons_of_mem _ hb)
    exact ⟨h1, by show hide w.H a b ≠ none; rw [hide_ne q]; exact h2⟩
  · have q : b ≠ a := fun z => nm (z ▸ List.mem_of_getElem? h1)
    have r := ok.obj n b u h1 h2
    cases u with
    | lst ds =>
      obtain ⟨vs, q1, q2⟩ := r
      exact ⟨vs, (hide_ne q).trans q1, q2.cls e⟩
    | ins C fs =>
      obtain ⟨dx, fv, q1, q2, hc⟩ := r
      exact ⟨dx, fv, (hide_ne q).trans q1, q2.cls e, hc⟩
end
theorem cls_step {w w2 : Wd} {a : Addr} {o : HO} (ok : Ok K w) (h : w.H a = none) (s : Step (w.opn a o) w2) : Step w (w2.cls a w.op) := by
  obtain ⟨ν, e, hν⟩ := s.ext
  refine ⟨⟨ν, e, fun b hb => ?_⟩, fun b u hb hl hn => ?_, fun n hn => s.dead n hn, s.len, fun b hb => ?_, ⟨[], rfl, by simp⟩⟩
  · have z := hν b hb
    have q : b ≠ a := fun q => by
      have z : upd w.H a o b = none := z
      rw [q, upd_same] at z; cases z
    exact (upd_ne q).symm.trans z
  · have q : b ≠ a := ne_of_none hb h
    have z := s.kp b u ((upd_ne q).trans hb) hl hn
    exact (hide_ne q).trans z
  · have q : b ≠ a := fun q => hb (by rw [q]; exact h)
    show hide w2.H a b ≠ none
    rw [hide_ne q]
    exact s.has b (by show upd w.H a o b ≠ none; rw [upd_ne q]; exact hb)
end
theorem fin_more {k : Bool} {K : Frag} {w : Wd} {f : D → Sto → Res (Option D)} {ds acc : List D} {y : D} {st : Sto} {Q : VK} {E : XK}
    (p : PR K (Rep K) w (Res.bind (match compM f ds st with
      | .ok ys st2 => .ok (y :: ys) st2
      | _ => .bad) fun ys st2 => mkL k (acc ++ ys) st2) Q E) :
    acc.length < line ∧ PR K (Rep K) w ((compM f ds st).bind fun ys st2 => mkL k (acc ++ [y] ++ ys) st2) Q E := by
  cases e : compM f ds st with
  | bad => rw [e] at p; exact p.elim
  | exc x st2 => rw [e] at p; exact p.elim
  | ok ys st2 =>
    rw [e] at p
    simp only [Res.bind] at p ⊢
    rw [show acc ++ [y] ++ ys = acc ++ y :: ys by simp]
    by_cases hl : (acc ++ y :: ys).length ≤ line
    · refine ⟨?_, p⟩
      rw [List.length_append, List.length_cons] at hl
      omega
    · unfold mkL at p
      rw [if_neg hl] at p; exact p.elim
section
variable {X : Cx} {W : WX}
theorem t_comp {k : Bool} {g : TG} {tt : TT} {own : List Nat} {im : Im} {gm : Gm} {tm : Tm} {em : Em} (hg : GRel X.K own g gm) (ht : ∀ σ H Q, TTm X.K tm W0 σ H Q → tt σ H Q) {σV : L2.St} {H : Hp} {Q : VK}
    (hq : TEm X.K (eComp k own im gm tm em) W σV H Q) : tLc (TIm X.K im W) g tt (TEm X.K em W0) own σV H Q := by
  obtain ⟨w, σ, rfl, ok, sl, p⟩ := hq
  refine ⟨w, σ, rfl, ok, sl, PR.bind ok p fun items st J mu H1 e1 s1 ok1 wk p1 => ?_⟩
  intro A hA
  obtain ⟨G, Y, hw, hG, hY⟩ := wk
  refine lc_it hw (fun i H => ∃ (w2 : Wd) (va : List V) (acc : List D), w2.op = w.op ∧ w2.H A = none ∧ H = upd w2.H A (.lst va) ∧ Ok X.K w2 ∧ Step ⟨mu, st, H1, w.op⟩ w2 ∧ Reps X.K w2 va acc ∧
    PR X.K (Rep X.K) w2 ((compM (compF own gm tm em σ) (items.drop i) w2.st).bind fun ys st2 => mkL k (acc ++ ys) st2) Q (xk W σV)) ?_ ?_ ?_ ?_
  · exact ⟨⟨mu, st, H1, w.op⟩, [], [], rfl, hA, rfl, ok1, .refl _, .nil, p1⟩
  · rintro i H' hi ⟨w2, va, acc, eop, hA2, rfl, ok2, s2, ra, p2⟩
    exact hG (w2.opn A (.lst va)) (s2.trans (opn_step hA2) (by exact ok1)) (opn_ok ok2 hA2)
  · rintro i x H' H2 hi ⟨w2, va, acc, eop, hA2, rfl, ok2, s2, ra, p2⟩ y
    have so := s2.trans (opn_step (o := .lst va) hA2) (by exact ok1)
    have oo := opn_ok (o := .lst va) ok2 hA2
    obtain ⟨w3, rfl, est, eop3, s3, ok3, r3⟩ := hY i items[i] (w2.opn A (.lst va)) x H2 (by simp [hi]) so oo y
    rw [List.drop_eq_getElem_cons hi] at p2
    unfold compM compF at p2
    cases q : gm items[i] (wipeD σ own) with
    | none => simp only [q] at p2; exact p2.elim
    | some σ3 =>
      simp only [q] at p2
      have slw : Slots X.K w3 (wipeD σ own) (L2.wipe σV own) := ((((sl.step s1 ok).step s2 ok1).step (opn_step (o := .lst va) hA2) ok2).step s3 oo).wipe own
      refine hg w3 x items[i] _ σ3 _ _ ok3 r3 slw q fun σV3 sl3 ew => ⟨?_, ht _ _ _ ⟨w3, σ3, rfl, ok3, sl3, ?_⟩⟩
      · have iw : L2.wipe (L2.wipe σV own) own = L2.wipe σV own := by
          have aux : ∀ (l : List Nat) (τ : L2.St), (∀ v ∈ l, v ∈ own) → L2.wipe (L2.wipe τ l) own = L2.wipe τ own := by
            intro l
            induction l with
            | nil => intro τ _; rfl
            | cons v vs ih =>
              intro τ hv
              rw [show L2.wipe τ (v :: vs) = (L2.wipe τ vs).set v none from rfl, wipe_set (hv v List.mem_cons_self)]
              exact ih τ fun u hu => hv u (List.mem_cons_of_mem _ hu)
          exact aux own σV fun _ h => h
        rw [ew, iw]
      · rw [est]
        show PR _ _ w3 (tm σ3 w2.st) _ _
        have w3op : w3.op = A :: w2.op := eop3
        have hA3 : A ∉ w2.op := ok2.notOp hA2
        have s23 : Step (w2.opn A (.lst va)) w3 := s3
        cases e2 : tm σ3 w2.st with
        | bad => simp only [e2] at p2; exact p2.elim
        | exc xx st4 => simp only [e2] at p2; exact p2.elim
        | ok cc st4 =>
          intro b4 mu4 H4 s4 ok4 eb
          subst eb
          simp only [e2] at p2
          have s24 : Step (w2.opn A (.lst va)) ⟨mu4, st4, H4, w3.op⟩ := s23.trans s4 oo
          cases b4 with
          | false =>
            simp only at p2
            have hD : H4 A = some (.lst va) := s24.keep A _ (by show upd w2.H A (.lst va) A = _; exact upd_same) (put_live (o := .lst va) ok2 hA2)
            have sc := cls_step ok2 hA2 s24
            refine (if_neg Bool.false_ne_true).mpr ⟨(⟨mu4, st4, H4, w3.op⟩ : Wd).cls A w2.op, va, acc, eop, hide_same, (upd_hide hD).symm, cls_ok ok4 w3op hA3 hD, s2.trans sc (by exact ok1), ra.step sc ok2, ?_⟩
            exact PR.step sc ok2 p2
          | true =>
            simp only at p2
            refine (if_pos rfl).mpr ⟨⟨mu4, st4, H4, w3.op⟩, σ3, rfl, ok4, sl3.step s4 ok3, ?_⟩
            show PR _ _ _ (em σ3 st4) _ _
            cases e3 : em σ3 st4 with
            | bad => simp only [e3] at p2; exact p2.elim
            | exc xx st5 => simp only [e3] at p2; exact p2.elim
            | ok y5 st5 =>
              intro v5 mu5 H5 s5 ok5 r5
              simp only [e3] at p2
              have s25 : Step (w2.opn A (.lst va)) ⟨mu5, st5, H5, w3.op⟩ := s24.trans s5 oo
              have hD : H5 A = some (.lst va) := s25.keep A _ (by show upd w2.H A (.lst va) A = _; exact upd_same) (put_live (o := .lst va) ok2 hA2)
              have sc := cls_step ok2 hA2 s25
              have p3 := PR.step sc ok2 p2
              have eu : upd H5 A (.lst (va ++ [v5])) = upd (hide H5 A) A (.lst (va ++ [v5])) := by
                funext b
                unfold upd hide
                by_cases e : b = A
                · rw [if_pos e, if_pos e]
                · rw [if_neg e, if_neg e, if_neg e]
              obtain ⟨hlt, p4⟩ := fin_more p3
              refine ⟨va, hD, by rw [ra.length, line_eq]; exact hlt, (⟨mu5, st5, H5, w3.op⟩ : Wd).cls A w2.op, va ++ [v5], acc ++ [y5], eop, hide_same, eu, cls_ok ok5 w3op hA3 hD, s2.trans sc (by exact ok1), (ra.step sc ok2).append (.cons (r5.cls w3op) .nil), p4⟩
  · rintro H' ⟨w2, va, acc, eop, hA2, rfl, ok2, s2, ra, p2⟩
    rw [List.drop_length] at p2
    simp only [compM, Res.bind, List.append_nil] at p2
    exact (mkL_ok ok2 p2 ra).2 A hA2
/-- [elt for tg in iter] -/
theorem se_comp {k : Bool} {elt tg iter : Expr} {scope : Scope} {own : List (Str × Nat)} {pos : Pos} {g : TG} {gm : Gm} {im : Im} {em : Em} (hc : X.calm = true) (hN : X.N.Nodup) (hi : SI X W tg iter im) (ok : BlkOk X.N X.env.scope scope own)
    (hg : ∀ (s : Shared) (H : Hp) (C : Addr) (cl : List (Str × Addr)) (fp : List Addr), PG (X.blk s H scope (compEnvC scope cl C X.env) fp) tg g) (hgr : GRel X.K (own.map (·.2)) g gm)
    (he : ∀ (s : Shared) (H : Hp) (C : Addr) (cl : List (Str × Addr)) (fp : List Addr), SE (X.blk s H scope (compEnvC scope cl C X.env) fp) W0 elt em) (hs : ∀ x, foldedSetIterable iter X.env x = pure x := by intro _; rfl) :
    SE X W (.ListComp elt [⟨tg, iter, [], 0⟩] scope pos) (eComp k (own.map (·.2)) im gm tTrue em) :=
  pe_imp (pe_lc (te := TEm X.K em W0) hc hN hi ok hg (fun _ _ _ _ _ => pts_nil) he hs) fun _ _ _ q => t_comp hgr (fun σ H Q z => by
    obtain ⟨w, σ, rfl, ok, sl, p⟩ := z
    exact PR.ret (R := fun _ b c => b = c) ok p rfl) q
theorem se_compIf {k : Bool} {elt tg iter c : Expr} {scope : Scope} {own : List (Str × Nat)} {pos : Pos} {g : TG} {gm : Gm} {im : Im} {em : Em} {tm : Tm} (hc : X.calm = true) (hN : X.N.Nodup) (hi : SI X W tg iter im) (ok : BlkOk X.N X.env.scope scope own)
    (hg : ∀ (s : Shared) (H : Hp) (C : Addr) (cl : List (Str × Addr)) (fp : List Addr), PG (X.blk s H scope (compEnvC scope cl C X.env) fp) tg g) (hgr : GRel X.K (own.map (·.2)) g gm)
    (ht : ∀ (s : Shared) (H : Hp) (C : Addr) (cl : List (Str × Addr)) (fp : List Addr), ST (X.blk s H scope (compEnvC scope cl C X.env) fp) W0 c tm)
    (he : ∀ (s : Shared) (H : Hp) (C : Addr) (cl : List (Str × Addr)) (fp : List Addr), SE (X.blk s H scope (compEnvC scope cl C X.env) fp) W0 elt em) (hs : ∀ x, foldedSetIterable iter X.env x = pure x := by intro _; rfl) :
    SE X W (.ListComp elt [⟨tg, iter, [c], 0⟩] scope pos) (eComp k (own.map (·.2)) im gm tm em) :=
  pe_imp (pe_lc (te := TEm X.K em W0) (tt := TTm X.K tm W0) hc hN hi ok hg (fun s H C cl fp => pts_one (t := TTm X.K tm W0) (ht s H C cl fp)) he hs) fun _ _ _ q => t_comp hgr (fun σ H Q z => z) q
/-- name = [..] on one line -/
theorem ss_setComp {k : Bool} {i : Nat} {y : Str} {py : Pos} {elt tg iter : Expr} {scope : Scope} {own : List (Str × Nat)} {pos spos : Pos} {g : TG} {gm : Gm} {im : Im} {em : Em} (hc : X.calm = true) (hN : X.N.Nodup) (hy : X.N[i]? = some y) (hyl : X.env.scope.names.lookup y = some .local)
    (hsw : swapsWith (.ListComp elt [⟨tg, iter, [], 0⟩] scope pos) (some (.Name y py)) spos.line X.env = pure true) (hi : SI X W tg iter im) (ok : BlkOk X.N X.env.scope scope own)
    (hg : ∀ (s : Shared) (H : Hp) (C : Addr) (cl : List (Str × Addr)) (fp : List Addr), PG (X.blk s H scope (compEnvC scope cl C X.env) fp) tg g) (hgr : GRel X.K (own.map (·.2)) g gm)
    (he : ∀ (s : Shared) (H : Hp) (C : Addr) (cl : List (Str × Addr)) (fp : List Addr), SE (X.blk s H scope (compEnvC scope cl C X.env) fp) W0 elt em) (hs : ∀ x, foldedSetIterable iter X.env x = pure x := by intro _; rfl) :
    SS X W (.Assign [.Name y py] (.ListComp elt [⟨tg, iter, [], 0⟩] scope pos) spos) (sSet i (eComp k (own.map (·.2)) im gm tTrue em)) :=
  ps_imp (ps_setLc (te := TEm X.K em W0) hc hN hy hyl hsw hi ok hg (fun _ _ _ _ _ => pts_nil) he hs) fun D σV H q => by
    obtain ⟨w, σ, rfl, ok, sl, p⟩ := q
    refine t_comp hgr (fun σ H Q z => by
      obtain ⟨w, σ, rfl, ok, sl, p⟩ := z
      exact PR.ret (R := fun _ b c => b = c) ok p rfl) (k := k) ⟨w, σ, rfl, ok, sl, PSr.toR ok sl p fun d st v mu H1 e1 s1 ok1 r1 p1 => ?_⟩
    exact PSr.ret (w := ⟨mu, st, H1, w.op⟩) ok1 p1 ((sl.step s1 ok).set r1 i)
theorem ss_setCompIf {k : Bool} {i : Nat} {y : Str} {py : Pos} {elt tg iter c : Expr} {scope : Scope} {own : List (Str × Nat)} {pos spos : Pos} {g : TG} {gm : Gm} {im : Im} {em : Em} {tm : Tm} (hc : X.calm = true) (hN : X.N.Nodup) (hy : X.N[i]? = some y) (hyl : X.env.scope.names.lookup y = some .local)
    (hsw : swapsWith (.ListComp elt [⟨tg, iter, [c], 0⟩] scope pos) (some (.Name y py)) spos.line X.env = pure true) (hi : SI X W tg iter im) (ok : BlkOk X.N X.env.scope scope own)
    (hg : ∀ (s : Shared) (H : Hp) (C : Addr) (cl : List (Str × Addr)) (fp : List Addr), PG (X.blk s H scope (compEnvC scope cl C X.env) fp) tg g) (hgr : GRel X.K (own.map (·.2)) g gm)
    (ht : ∀ (s : Shared) (H : Hp) (C : Addr) (cl : List (Str × Addr)) (fp : List Addr), ST (X.blk s H scope (compEnvC scope cl C X.env) fp) W0 c tm)
    (he : ∀ (s : Shared) (H : Hp) (C : Addr) (cl : List (Str × Addr)) (fp : List Addr), SE (X.blk s H scope (compEnvC scope cl C X.env) fp) W0 elt em) (hs : ∀ x, foldedSetIterable iter X.env x = pure x := by intro _; rfl) :
    SS X W (.Assign [.Name y py] (.ListComp elt [⟨tg, iter, [c], 0⟩] scope pos) spos) (sSet i (eComp k (own.map (·.2)) im gm tm em)) :=
  ps_imp (ps_setLc (te := TEm X.K em W0) (tt := TTm X.K tm W0) hc hN hy hyl hsw hi ok hg (fun s H C cl fp => pts_one (t := TTm X.K tm W0) (ht s H C cl fp)) he hs) fun D σV H q => by
    obtain ⟨w, σ, rfl, ok, sl, p⟩ := q
    refine t_comp hgr (fun σ H Q z => z) (k := k) ⟨w, σ, rfl, ok, sl, PSr.toR ok sl p fun d st v mu H1 e1 s1 ok1 r1 p1 => ?_⟩
    exact PSr.ret (w := ⟨mu, st, H1, w.op⟩) ok1 p1 ((sl.step s1 ok).set r1 i)
end
end Sim

set_option Elab.async false
set_option linter.all false
set_option maxRecDepth 100000
set_option maxHeartbeats 4000000
/-! built-in calls, methods of lists and texts -/
namespace Sim
open PySem PySem.Spec PyProof.Rows L2

/-! ### built-in functions and types -/
def GC (K : Frag) (r : List V → Hp → VK → Prop) (g : List D → Sto → Res D) : Prop := ∀ (w : Wd) (xs : List V) (ds : List D) (Q : VK) (E : XK), Ok K w → Reps K w xs ds → PR K (Rep K) w (g ds w.st) Q E → r xs w.H Q
@[simp] def eCB (g : List D → Sto → Res D) (a : Am) : Em := fun σ st => (a σ st).bind fun ds st1 => g ds st1
section
variable {X : Cx} {W : WX} {x : Str} {p pos : Pos} {e : Expr} {es : List Expr} {id T : String} {r : List V → Hp → VK → Prop} {g : List D → Sto → Res D} {ma : Am}
theorem t_cb (hg : GC X.K r g) {σV : L2.St} {H : Hp} {Q : VK} (q : TEm X.K (eCB g ma) W σV H Q) : tCB r (TAm X.K ma W) σV H Q := by
  obtain ⟨w, σ, rfl, ok, sl, p⟩ := q
  refine ⟨w, σ, rfl, ok, sl, PR.bind ok p fun ds st xs mu H1 e1 s1 ok1 r1 p1 => ?_⟩
  exact hg ⟨mu, st, H1, w.op⟩ xs ds Q _ ok1 r1 p1
theorem se_cb (hc : CallR X (.builtin id) r) (hg : GC X.K r g) (hm : X.mg x = none) (ha : SA X W (e :: es) ma) (hv : bootBuiltins x = some (.builtin id) := by decide +kernel) (hgl : Gl X x := by rfl) (hn : x ≠ "__name__" := by decide) (hdb : (x == ("__debug__" : Str)) = false := by decide)
    (he : starEach (e :: es) X.env = (false, eval e X.env) :: starEach es X.env := by rfl) (hpl : (backTo pos (starEach es X.env)).any (·.1) = false := by rfl) : SE X W (.Call (.Name x p) (e :: es) [] pos) (eCB g ma) :=
  pe_imp (pe_callB hc hgl hm hv ha hn hdb he hpl) fun _ _ _ q => t_cb hg q
theorem se_cty (hc : CallR X (.type T) r) (hg : GC X.K r g) (hm : X.mg x = none) (ha : SA X W (e :: es) ma) (hv : bootBuiltins x = some (.type T) := by decide +kernel) (hgl : Gl X x := by rfl) (hn : x ≠ "__name__" := by decide) (hdb : (x == ("__debug__" : Str)) = false := by decide)
    (he : starEach (e :: es) X.env = (false, eval e X.env) :: starEach es X.env := by rfl) (hpl : (backTo pos (starEach es X.env)).any (·.1) = false := by rfl) : SE X W (.Call (.Name x p) (e :: es) [] pos) (eCB g ma) :=
  pe_imp (pe_callTy hc hgl hm hv ha hn hdb he hpl) fun _ _ _ q => t_cb hg q
/-- a module's built-in (gcd) -/
theorem se_cbG (hc : CallR X (.builtin id) r) (hg : GC X.K r g) (hm : X.mg x = some (.builtin id)) (ha : SA X W (e :: es) ma) (hgl : Gl X x := by rfl) (hdb : (x == ("__debug__" : Str)) = false := by decide)
    (he : starEach (e :: es) X.env = (false, eval e X.env) :: starEach es X.env := by rfl) (hpl : (backTo pos (starEach es X.env)).any (·.1) = false := by rfl) : SE X W (.Call (.Name x p) (e :: es) [] pos) (eCB g ma) :=
  pe_imp (pe_callBfun hc hgl hm ha hdb he hpl) fun _ _ _ q => t_cb hg q
end
section
variable {K : Frag}
theorem gc1 {r : List V → Hp → VK → Prop} {g : List D → Sto → Res D} (h0 : ∀ st, g [] st = .bad) (h2 : ∀ a b l st, g (a :: b :: l) st = .bad)
    (h : ∀ (w : Wd) (x : V) (d : D) (Q : VK) (E : XK), Ok K w → Rep K w x d → PR K (Rep K) w (g [d] w.st) Q E → r [x] w.H Q) : GC K r g := fun w xs ds Q E ok rs p => by
  cases rs with
  | nil => rw [h0] at p; exact p.elim
  | cons r t =>
    cases t with
    | nil => exact h w _ _ Q E ok r p
    | cons _ _ => rw [h2] at p; exact p.elim
theorem gc2 {r : List V → Hp → VK → Prop} {g : List D → Sto → Res D} (h0 : ∀ st, g [] st = .bad) (h1 : ∀ a st, g [a] st = .bad) (h3 : ∀ a b c l st, g (a :: b :: c :: l) st = .bad)
    (h : ∀ (w : Wd) (x y : V) (d e : D) (Q : VK) (E : XK), Ok K w → Rep K w x d → Rep K w y e → PR K (Rep K) w (g [d, e] w.st) Q E → r [x, y] w.H Q) : GC K r g := fun w xs ds Q E ok rs p => by
  cases rs with
  | nil => rw [h0] at p; exact p.elim
  | cons r t =>
    cases t with
    | nil => rw [h1] at p; exact p.elim
    | cons r2 t2 =>
      cases t2 with
      | nil => exact h w _ _ _ _ Q E ok r r2 p
      | cons _ _ => rw [h3] at p; exact p.elim
/-- len -/
def lenD : List D → Sto → Res D := fun ds st => match ds with
  | [.str z] => if z.length ≤ line then .ok (.int (z.length : Nat)) st else .bad
  | [d] => (match itemsOf d st with
    | some xs => .ok (.int (xs.length : Nat)) st
    | none => .bad)
  | _ => .bad
theorem gc_len : GC K (fun xs H Q => ∃ x n, xs = [x] ∧ LenV K x H n ∧ Q (.int n) H) lenD := gc1 (fun _ => rfl) (fun a _ _ _ => by cases a <;> rfl) fun w x d Q E ok r p => by
  by_cases hs : ∃ z, d = .str z
  · obtain ⟨z, rfl⟩ := hs
    cases r
    unfold lenD at p
    simp only at p
    by_cases hz : z.length ≤ line
    · rw [if_pos hz] at p
      exact ⟨_, z.length, rfl, ⟨by rw [line_eq]; exact hz, rfl⟩, PR.ret (R := Rep K) ok p (.int _)⟩
    · rw [if_neg hz] at p; exact p.elim
  · have e0 : lenD [d] w.st = (match itemsOf d w.st with
      | some xs => .ok (.int (xs.length : Nat)) w.st
      | none => .bad) := by
      cases d with
      | str z => exact absurd ⟨z, rfl⟩ hs
      | _ => rfl
    rw [e0] at p
    cases e1 : itemsOf d w.st with
    | none => rw [e1] at p; exact p.elim
    | some ds =>
      rw [e1] at p
      obtain ⟨a, vs, rfl, hq, rs⟩ := items_ok ok r e1
      refine ⟨_, ds.length, rfl, ?_, PR.ret (R := Rep K) ok p (.int _)⟩
      rcases hq with hq | hq
      · exact .inl ⟨vs, hq, rs.length.symm⟩
      · exact .inr ⟨vs, hq, rs.length.symm⟩
/-- list(x), tuple(x) -/
def listD (k : Bool) : List D → Sto → Res D := fun ds st => match ds with
  | [d] => (match itemsOf d st with
    | some xs => mkL k xs st
    | none => .bad)
  | _ => .bad
theorem gc_list {k : Bool} : GC K (fun xs H Q => ∃ p ys, xs = [.ref p] ∧ (SqL K H p ys ∨ SqT K H p ys) ∧ ∀ l, H l = none → Q (.ref l) (upd H l (.lst ys))) (listD k) := gc1 (fun _ => rfl) (fun _ _ _ _ => rfl) fun w x d Q E ok r p => by
  unfold listD at p
  cases e1 : itemsOf d w.st with
  | none => simp only [e1] at p; exact p.elim
  | some ds =>
    simp only [e1] at p
    obtain ⟨a, vs, rfl, hq, rs⟩ := items_ok ok r e1
    exact ⟨a, vs, rfl, hq, (mkL_ok ok p rs).2⟩
def tupleD : List D → Sto → Res D := fun ds st => match ds with
  | [d] => (match itemsOf d st with
    | some xs => .ok (.tup xs) st
    | none => .bad)
  | _ => .bad
theorem gc_tuple : GC K (fun xs H Q => ∃ p ys, xs = [.ref p] ∧ ((SqL K H p ys ∧ ∀ l, H l = none → Q (.ref l) (upd H l (.tup ys))) ∨ (SqT K H p ys ∧ Q (.ref p) H))) tupleD := gc1 (fun _ => rfl) (fun _ _ _ _ => rfl) fun w x d Q E ok r p => by
  unfold tupleD at p
  cases e1 : itemsOf d w.st with
  | none => simp only [e1] at p; exact p.elim
  | some ds =>
    simp only [e1] at p
    cases r with
    | tup h ho hs => cases e1; exact ⟨_, _, rfl, .inr ⟨.inl h, PR.ret (R := Rep K) ok p (.tup h ho hs)⟩⟩
    | ktup h hs => cases e1; exact ⟨_, _, rfl, .inr ⟨h _, PR.ret (R := Rep K) ok p (.ktup h hs)⟩⟩
    | lst h hl ho hs => cases e1; exact ⟨_, _, rfl, .inl ⟨.inl (.inl h), fun l hn => PR.new ok hn p (rep_new_tup ok hn hs)⟩⟩
    | kscr h ht hs => cases e1; exact ⟨_, _, rfl, .inl ⟨h _, fun l hn => PR.new ok hn p (rep_new_tup ok hn hs)⟩⟩
    | scr h hl ho hs => cases e1; exact ⟨_, _, rfl, .inl ⟨.inl (.inr ⟨_, h⟩), fun l hn => PR.new ok hn p (rep_new_tup ok hn hs)⟩⟩
    | @ref a n h =>
      have e2 : listOf (.ref n) w.st = some ds := e1
      obtain ⟨b, vs, e3, hq, rs⟩ := list_ok ok (.ref h) e2
      cases e3
      exact ⟨a, vs, rfl, .inl ⟨.inl (.inl hq), fun l hn => PR.new ok hn p (rep_new_tup ok hn rs)⟩⟩
    | _ => cases e1
/-- int(x) of ints and truths -/
def intD : List D → Sto → Res D := fun ds st => match ds with
  | [.int i] => .ok (.int i) st
  | [.bl b] => .ok (.int (if b then 1 else 0)) st
  | _ => .bad
@[simp] theorem intD_int (i : Int) (st : Sto) : intD [.int i] st = .ok (.int i) st := rfl
@[simp] theorem intD_bl (b : Bool) (st : Sto) : intD [.bl b] st = .ok (.int (if b then 1 else 0)) st := rfl
theorem gc_int : GC K (fun xs H Q => (∃ i, xs = [.int i] ∧ Q (.int i) H) ∨ ∃ k, xs = [.bl k] ∧ Q (.int (if k then 1 else 0)) H) intD := fun w xs ds Q E ok rs p => by
  cases rs with
  | nil => exact p.elim
  | cons r t =>
    cases t with
    | cons _ _ => cases r <;> exact p.elim
    | nil =>
      cases r with
      | int i => exact .inl ⟨i, rfl, PR.ret (R := Rep K) ok p (.int i)⟩
      | bl b => exact .inr ⟨b, rfl, PR.ret (R := Rep K) ok p (.int _)⟩
      | _ => exact p.elim
def absD : List D → Sto → Res D := fun ds st => match ds with
  | [.int i] => .ok (.int (if i < 0 then -i else i)) st
  | _ => .bad
@[simp] theorem absD_int (i : Int) (st : Sto) : absD [.int i] st = .ok (.int (if i < 0 then -i else i)) st := rfl
theorem gc_abs : GC K (fun xs H Q => ∃ i, xs = [.int i] ∧ Q (.int (if i < 0 then -i else i)) H) absD := fun w xs ds Q E ok rs p => by
  cases rs with
  | nil => exact p.elim
  | cons r t =>
    cases t with
    | cons _ _ => cases r <;> exact p.elim
    | nil =>
      cases r with
      | int i => exact ⟨i, rfl, PR.ret (R := Rep K) ok p (.int _)⟩
      | _ => exact p.elim
def gcdD : List D → Sto → Res D := fun ds st => match ds with
  | [.int i, .int j] => .ok (.int (Nat.gcd i.natAbs j.natAbs : Nat)) st
  | _ => .bad
@[simp] theorem gcdD_int (i j : Int) (st : Sto) : gcdD [.int i, .int j] st = .ok (.int (Nat.gcd i.natAbs j.natAbs : Nat)) st := rfl
def minD : List D → Sto → Res D := fun ds st => match ds with
  | [.int i, .int j] => .ok (.int (if j < i then j else i)) st
  | _ => .bad
def maxD : List D → Sto → Res D := fun ds st => match ds with
  | [.int i, .int j] => .ok (.int (if j > i then j else i)) st
  | _ => .bad
@[simp] theorem minD_int (i j : Int) (st : Sto) : minD [.int i, .int j] st = .ok (.int (if j < i then j else i)) st := rfl
@[simp] theorem maxD_int (i j : Int) (st : Sto) : maxD [.int i, .int j] st = .ok (.int (if j > i then j else i)) st := rfl
theorem gc_2ints {f : Int → Int → D} {g : Int → Int → V} (h : ∀ w i j, Rep K w (g i j) (f i j)) : GC K (fun vs H Q => ∃ a b : Int, vs = [.int a, .int b] ∧ Q (g a b) H) (fun ds st => match ds with
  | [.int i, .int j] => .ok (f i j) st
  | _ => .bad) := fun w xs ds Q E ok rs p => by
  by_cases hs : ∃ i j, ds = [.int i, .int j]
  · obtain ⟨i, j, rfl⟩ := hs
    cases rs with
    | cons r t =>
      cases t with
      | cons r2 t2 =>
        cases t2
        cases r
        cases r2
        exact ⟨i, j, rfl, PR.ret (R := Rep K) ok p (h _ _ _)⟩
  · exfalso
    revert p
    simp only
    split <;> first | (rename_i i j; exact fun _ => hs ⟨i, j, rfl⟩) | exact fun z => z
theorem gc_gcd : GC K rGcd gcdD := gc_2ints (f := fun i j => .int (Nat.gcd i.natAbs j.natAbs : Nat)) fun _ _ _ => .int _
theorem gc_min : GC K (fun vs H Q => ∃ a b : Int, vs = [.int a, .int b] ∧ Q (.int (if b < a then b else a)) H) minD := gc_2ints (f := fun i j => .int (if j < i then j else i)) fun _ _ _ => .int _
theorem gc_max : GC K (fun vs H Q => ∃ a b : Int, vs = [.int a, .int b] ∧ Q (.int (if b > a then b else a)) H) maxD := gc_2ints (f := fun i j => .int (if j > i then j else i)) fun _ _ _ => .int _
/-- all, any of a list of truths -/
def allB : List D → Option (List Bool)
  | [] => some []
  | .bl b :: r => (allB r).map (b :: ·)
  | _ :: _ => none
theorem allB_ok {w : Wd} : ∀ {vs : List V} {ds : List D} {bs : List Bool}, Reps K w vs ds → allB ds = some bs → vs = bs.map V.bl
  | _, _, _, .nil, e => by cases e; rfl
  | _, _, bs, .cons r t, e => by
    cases r with
    | bl b =>
      simp only [allB, Option.map_eq_some_iff] at e
      obtain ⟨cs, e1, rfl⟩ := e
      rw [allB_ok t e1]
      rfl
    | _ => cases e
def allD : List D → Sto → Res D := fun ds st => match ds with
  | [.lst xs] => (match allB xs with
    | some bs => .ok (.bl (bs.all fun b => b)) st
    | none => .bad)
  | _ => .bad
theorem gc_all : GC K (rAll K) allD := gc1 (fun _ => rfl) (fun a _ _ _ => by cases a <;> rfl) fun w x d Q E ok r p => by
  cases r with
  | @lst a vs ds h hl ho hs =>
    unfold allD at p
    cases e1 : allB ds with
    | none => simp only [e1] at p; exact p.elim
    | some bs =>
      simp only [e1] at p
      have e2 := allB_ok hs e1
      rw [e2] at h
      exact ⟨a, bs, rfl, .inl (.inl h), PR.ret (R := Rep K) ok p (.bl _)⟩
  | _ => exact p.elim
end
/-! ### methods of built-in types -/
def GMt (K : Frag) (r : V → List V → Hp → VK → Prop) (g : D → List D → Sto → Res D) : Prop := ∀ (w : Wd) (x : V) (xs : List V) (d : D) (ds : List D) (Q : VK) (E : XK), Ok K w → Rep K w x d → Reps K w xs ds → PR K (Rep K) w (g d ds w.st) Q E → r x xs w.H Q
/-- T: "list" or "str" -/
def isT (T : String) (d : D) (st : Sto) : Bool := match d with
  | .str _ => T == "str"
  | .int _ => T == "int"
  | d => T == "list" && (listOf d st).isSome
@[simp] def eBM (T : String) (g : D → List D → Sto → Res D) (o : Em) (a : Am) : Em := fun σ st => (o σ st).bind fun d st1 => if isT T d st1 = true then (a σ st1).bind fun ds st2 => g d ds st2 else .bad
theorem isT_ok {K : Frag} {T : String} {w : Wd} {v : V} {d : D} (ok : Ok K w) (r : Rep K w v d) (h : isT T d w.st = true) : tyV K T v w.H := by
  have main : ∀ {v : V} {d : D}, Rep K w v d → (T == "list" && (listOf d w.st).isSome) = true → tyV K T v w.H := fun {v d} r h => by
    obtain ⟨h1, h2⟩ := Bool.and_eq_true_iff.mp h
    cases e : listOf d w.st with
    | none => rw [e] at h2; cases h2
    | some ds =>
      obtain ⟨a, vs, rfl, hq, rs⟩ := list_ok ok r e
      exact .inl ⟨eq_of_beq h1, vs, .inl (.inl hq)⟩
  cases r with
  | str z => exact eq_of_beq h
  | int i => exact eq_of_beq h
  | non => exact main .non h
  | bl b => exact main (.bl b) h
  | ty n => exact main (.ty n) h
  | tup h1 h2 h3 => exact main (.tup h1 h2 h3) h
  | ktup h1 h2 => exact main (.ktup h1 h2) h
  | lst h1 h2 h3 h4 => exact main (.lst h1 h2 h3 h4) h
  | scr h1 h2 h3 h4 => exact main (.scr h1 h2 h3 h4) h
  | kscr h1 h2 h3 => exact main (.kscr h1 h2 h3) h
  | ins h1 h2 h3 h4 h5 => exact main (.ins h1 h2 h3 h4 h5) h
  | exo h1 h2 hl hl2 ho ho2 hs hc => exact main (.exo h1 h2 hl hl2 ho ho2 hs hc) h
  | ref h1 => exact main (.ref h1) h
section
variable {X : Cx} {W : WX} {o e : Expr} {es : List Expr} {T id : String} {name : Str} {apos cpos : Pos} {r : V → List V → Hp → VK → Prop} {g : D → List D → Sto → Res D} {mo : Em} {ma : Am}
theorem se_bm (pa : PlainAttrs T) (slot : Slot T name id) (hty : typeOf (.builtin id) = pure (.type "method_descriptor")) (hm : MtR X id r) (hg : GMt X.K r g) (ho : SE X W o mo) (ha : SA X W (e :: es) ma)
    (hbase : attributeBase o name X.env (eval o X.env) = eval o X.env := by rfl)
    (hfew : ((backTo cpos (starEach (e :: es) X.env)).all (fun x => !x.1) && (backToKw cpos (keywordEach [] X.env)).all (fun x => x.1.isSome)
      && decide ((e :: es).length + ([] : List Keyword).length + (if ([] : List Keyword).isEmpty then 0 else 1) < 30)) = true := by rfl)
    (hline : (apos.endLine == cpos.line) = true := by rfl) (hs : starEach (e :: es) X.env = (false, eval e X.env) :: starEach es X.env := by rfl) (hplain : (backTo cpos (starEach es X.env)).any (·.1) = false := by rfl) :
    SE X W (.Call (.Attribute o name apos) (e :: es) [] cpos) (eBM T g mo ma) :=
  pe_imp (pe_bm pa slot hty hm ho ha hbase hfew hline hs hplain) fun σV H Q q => by
    obtain ⟨w, σ, rfl, ok, sl, p⟩ := q
    refine ⟨w, σ, rfl, ok, sl, PR.bind ok p fun d st x mu H1 e1 s1 ok1 r1 p1 => ?_⟩
    by_cases hT : isT T d st = true
    · rw [if_pos hT] at p1
      refine ⟨isT_ok (w := ⟨mu, st, H1, w.op⟩) ok1 r1 hT, ⟨mu, st, H1, w.op⟩, σ, rfl, ok1, sl.step s1 ok, PR.bind ok1 p1 fun ds st2 xs mu2 H2 e2 s2 ok2 r2 p2 => ?_⟩
      exact hg ⟨mu2, st2, H2, w.op⟩ x xs d ds Q _ ok2 (r1.step s2 ok1) r2 p2
    · rw [if_neg hT] at p1; exact p1.elim
theorem se_bm0 (pa : PlainAttrs T) (slot : Slot T name id) (hty : typeOf (.builtin id) = pure (.type "method_descriptor")) (hm : MtR X id r) (hg : GMt X.K r g) (ho : SE X W o mo)
    (hbase : attributeBase o name X.env (eval o X.env) = eval o X.env := by rfl) (hline : (apos.endLine == cpos.line) = true := by rfl) :
    SE X W (.Call (.Attribute o name apos) [] [] cpos) (eBM T g mo aNil) :=
  pe_imp (pe_bm0 pa slot hty hm ho hbase hline) fun σV H Q q => by
    obtain ⟨w, σ, rfl, ok, sl, p⟩ := q
    refine ⟨w, σ, rfl, ok, sl, PR.bind ok p fun d st x mu H1 e1 s1 ok1 r1 p1 => ?_⟩
    by_cases hT : isT T d st = true
    · rw [if_pos hT] at p1
      exact ⟨isT_ok (w := ⟨mu, st, H1, w.op⟩) ok1 r1 hT, hg ⟨mu, st, H1, w.op⟩ x [] d [] Q _ ok1 r1 .nil p1⟩
    · rw [if_neg hT] at p1; exact p1.elim
end
section
variable {K : Frag}
/-- a list of the store changed -/
def wrL (n : Nat) (ds : List D) (d : D) (st : Sto) : Res D := .ok d (st.set n (some (.lst ds)))
theorem wrL_ok {w : Wd} {n : Nat} {a : Addr} {ds0 ds : List D} {vs : List V} {d : D} {v : V} {Q : VK} {E : XK} (ok : Ok K w) (h : w.mu[n]? = some a) (e : w.st[n]? = some (some (.lst ds0))) (rs : Reps K w vs ds)
    (rd : ∀ w', Step w w' → Rep K w' v d) (p : PR K (Rep K) w (wrL n ds d w.st) Q E) : Q v (upd w.H a (.lst vs)) := by
  have s := wr_step (o := .lst vs) (u := .lst ds) h e
  exact p v w.mu (upd w.H a (.lst vs)) s (wr_ok ok h e ⟨vs, upd_same, rs.step s ok⟩) (rd _ s)
/-- an object of the store that is a list -/
theorem ref_lst {w : Wd} {x : V} {d : D} {n : Nat} {ds : List D} (ok : Ok K w) (r : Rep K w x d) (hd : d = .ref n) (e : w.st[n]? = some (some (.lst ds))) : ∃ a vs, x = .ref a ∧ w.mu[n]? = some a ∧ w.H a = some (.lst vs) ∧ Reps K w vs ds := by
  subst hd
  cases r with
  | @ref a _ h =>
    obtain ⟨vs, h1, h2⟩ := ok.obj n a _ h e
    exact ⟨a, vs, rfl, h, h1, h2⟩
def mutD (f : List D → List D → Option (D × List D)) : D → List D → Sto → Res D := fun d as st => match d with
  | .ref n => (match st[n]? with
    | some (some (.lst ds)) => (match f ds as with
      | some (r, ds') => wrL n ds' r st
      | none => .bad)
    | _ => .bad)
  | _ => .bad
theorem gmt_mut {r : V → List V → Hp → VK → Prop} {f : List D → List D → Option (D × List D)}
    (h : ∀ (w : Wd) (a : Addr) (n : Nat) (vs xs : List V) (ds as ds' : List D) (d : D) (Q : VK), Ok K w → w.H a = some (.lst vs) → Reps K w vs ds → Reps K w xs as → f ds as = some (d, ds') →
      (∀ v vs', Reps K w vs' ds' → (∀ w', Step w w' → Rep K w' v d) → Q v (upd w.H a (.lst vs'))) → r (.ref a) xs w.H Q) : GMt K r (mutD f) := fun w x xs d as Q E ok rd ra p => by
  unfold mutD at p
  cases rd with
  | @ref a n hn =>
    cases e1 : w.st[n]? with
    | none => simp only [e1] at p; exact p.elim
    | some o =>
      cases o with
      | none => simp only [e1] at p; exact p.elim
      | some o =>
        cases o with
        | ins C fs => simp only [e1] at p; exact p.elim
        | lst ds =>
          simp only [e1] at p
          cases e2 : f ds as with
          | none => simp only [e2] at p; exact p.elim
          | some q =>
            obtain ⟨d, ds'⟩ := q
            simp only [e2] at p
            obtain ⟨vs, h1, h2⟩ := ok.obj n a _ hn e1
            exact h w a n vs xs ds as ds' d Q ok h1 h2 ra e2 fun v vs' rs rv => wrL_ok ok hn e1 rs rv p
  | _ => exact p.elim
def fAppend : List D → List D → Option (D × List D) := fun ds as => match as with
  | [d] => if ds.length < line then some (.non, ds ++ [d]) else none
  | _ => none
theorem gmt_append : GMt K rAppend (mutD fAppend) := gmt_mut fun w a n vs xs ds as ds' d Q ok h rs ra e k => by
  cases ra with
  | nil => cases e
  | @cons v x _ _ r t =>
    cases t with
    | cons _ _ => cases e
    | nil =>
      unfold fAppend at e
      simp only at e
      split at e
      · rename_i hl
        cases e
        exact ⟨a, vs, v, rfl, rfl, h, by rw [rs.length, line_eq]; exact hl, k .non _ (rs.append (.cons r .nil)) fun _ _ => .non⟩
      · cases e
def fReverse : List D → List D → Option (D × List D) := fun ds as => match as with
  | [] => some (.non, ds.reverse)
  | _ => none
theorem gmt_reverse : GMt K rReverse (mutD fReverse) := gmt_mut fun w a n vs xs ds as ds' d Q ok h rs ra e k => by
  cases ra with
  | nil =>
    cases e
    exact ⟨a, vs, rfl, rfl, h, k .non _ rs.reverse fun _ _ => .non⟩
  | cons _ _ => cases e
def fClear : List D → List D → Option (D × List D) := fun ds as => match as with
  | [] => some (.non, [])
  | _ => none
theorem gmt_clear : GMt K rClear (mutD fClear) := gmt_mut fun w a n vs xs ds as ds' d Q ok h rs ra e k => by
  cases ra with
  | nil =>
    cases e
    exact ⟨a, vs, rfl, rfl, h, k .non _ .nil fun _ _ => .non⟩
  | cons _ _ => cases e
end
/-! ### o[i] = v -/
def setD : D → D → D → Sto → Option Sto := fun o i v st => match o, i with
  | .ref n, .int k => (match st[n]? with
    | some (some (.lst ds)) => (match ixN ds.length k with
      | some j => some (st.set n (some (.lst (ds.set j v))))
      | none => none)
    | _ => none)
  | _, _ => none
@[simp] def sSetIx (m o i : Em) : Sm := fun σ st => (m σ st).toRS σ fun v st1 => (o σ st1).toRS σ fun x st2 => (i σ st2).toRS σ fun y st3 => match setD x y v st3 with
  | some st4 => .nx σ st4
  | none => .bad
section
variable {X : Cx} {W : WX} {e o i : Expr} {m mo mi : Em} {pos tpos : Pos}
theorem ss_setix (he : SE X W e m) (ho : SE X W o mo) (hi : SE X W i mi) (ha : ∀ v, assign (.Subscript o i tpos) X.env v = (do
      let ov ← holding [v] (eval o X.env)
      let iv ← holding [v, ov] (eval i X.env)
      standAt tpos
      holding [v, ov, iv] (setItem ov iv v)
      release [v, ov, iv] []) := by intro _; rfl) (hs : swapsWithSole [.Subscript o i tpos] e pos.line X.env = pure false := by rfl) (hw : swappedStores [.Subscript o i tpos] e X.env = pure none := by rfl)
    (h1 : (assignEach [.Subscript o i tpos] X.env).map (·.2) = [assign (.Subscript o i tpos) X.env] := by rfl) : SS X W (.Assign [.Subscript o i tpos] e pos) (sSetIx m mo mi) :=
  ps_imp (ps_asg he (pg_sub ho hi set_list ha) hs hw h1) fun D σV H q => by
    obtain ⟨w, σ, rfl, ok, sl, p⟩ := q
    refine ⟨w, σ, rfl, ok, sl, PSr.toR ok sl p fun d st v mu H1 e1 s1 ok1 r1 p1 => ?_⟩
    have sl1 := sl.step s1 ok
    refine ⟨⟨mu, st, H1, w.op⟩, σ, rfl, ok1, sl1, PSr.toR ok1 sl1 p1 fun d2 st2 ov mu2 H2 e2 s2 ok2 r2 p2 => ?_⟩
    have sl2 := sl1.step s2 ok1
    refine ⟨⟨mu2, st2, H2, w.op⟩, σ, rfl, ok2, sl2, PSr.toR ok2 sl2 p2 fun d3 st3 iv mu3 H3 e3 s3 ok3 r3 p3 => ?_⟩
    have sl3 := sl2.step s3 ok2
    have rv := (r1.step s2 ok1).step s3 ok2
    have ro := r2.step s3 ok2
    unfold setD at p3
    cases ro with
    | @ref a n hn =>
      cases r3 with
      | int k =>
        simp only at p3
        cases q1 : st3[n]? with
        | none => simp only [q1] at p3; exact p3.elim
        | some u =>
          cases u with
          | none => simp only [q1] at p3; exact p3.elim
          | some u =>
            cases u with
            | ins C fs => simp only [q1] at p3; exact p3.elim
            | lst ds =>
              simp only [q1] at p3
              cases q2 : ixN ds.length k with
              | none => simp only [q2] at p3; exact p3.elim
              | some j =>
                simp only [q2] at p3
                obtain ⟨vs, h1, h2⟩ := ok3.obj n a _ hn q1
                refine ⟨a, vs, k, j, rfl, rfl, h1, by rw [h2.length]; exact q2, ?_⟩
                have s := wr_step (w := ⟨mu3, st3, H3, w.op⟩) (o := .lst (vs.set j v)) (u := .lst (ds.set j d)) hn q1
                exact p3 σV mu3 _ s (wr_ok (w := ⟨mu3, st3, H3, w.op⟩) ok3 hn q1 ⟨_, upd_same, (h2.set rv j).step s ok3⟩) (sl3.step s ok3)
      | _ => exact p3.elim
    | _ => exact p3.elim
end
/-! ### lists put together, repeated -/
def catL (k : Bool) : D → D → Sto → Res D := fun x y st => match listOf x st, listOf y st with
  | some a, some b => mkL k (a ++ b) st
  | _, _ => .bad
def repL (k : Bool) : D → D → Sto → Res D := fun x y st => match y with
  | .int n => (match listOf x st with
    | some a => if (decide (-(2 ^ 63) ≤ n) && (decide (n < 2 ^ 63) && decide (a.length * n.toNat ≤ line))) = true then mkL k (List.replicate n.toNat a).flatten st else .bad
    | none => .bad)
  | _ => .bad
theorem Reps.rep {K : Frag} {w : Wd} {vs : List V} {ds : List D} (r : Reps K w vs ds) : ∀ n : Nat, Reps K w (List.replicate n vs).flatten (List.replicate n ds).flatten
  | 0 => .nil
  | n + 1 => by
    rw [List.replicate_succ, List.replicate_succ, List.flatten_cons, List.flatten_cons]
    exact r.append (Reps.rep r n)
section
variable {X : Cx} {W : WX} {a b : Expr} {ma mb : Em} {pos : Pos}
theorem se_cat {k : Bool} (ha : SE X W a ma) (hb : SE X W b mb) : SE X W (.BinOp a .Add b pos) (eBin (catL k) ma mb) := se_bin op_cat (by
  intro w x y dx dy Q E ok rx ry p
  unfold catL at p
  cases e1 : listOf dx w.st with
  | none => rw [e1] at p; exact p.elim
  | some u =>
    cases e2 : listOf dy w.st with
    | none => rw [e1, e2] at p; exact p.elim
    | some v =>
      rw [e1, e2] at p
      obtain ⟨a1, vs, rfl, h1, r1⟩ := list_ok ok rx e1
      obtain ⟨a2, us, rfl, h2, r2⟩ := list_ok ok ry e2
      obtain ⟨hl, q⟩ := mkL_ok ok p (r1.append r2)
      rw [List.length_append] at hl
      exact ⟨a1, a2, vs, us, rfl, rfl, h1, h2, hl, q⟩) ha hb
theorem se_rep {k : Bool} (ha : SE X W a ma) (hb : SE X W b mb) : SE X W (.BinOp a .Mult b pos) (eBin (repL k) ma mb) := se_bin op_rep (by
  intro w x y dx dy Q E ok rx ry p
  cases ry with
  | int n =>
    unfold repL at p
    simp only at p
    cases e1 : listOf dx w.st with
    | none => rw [e1] at p; exact p.elim
    | some u =>
      rw [e1] at p
      simp only at p
      split at p
      · rename_i hh
        simp only [Bool.and_eq_true, decide_eq_true_eq] at hh
        obtain ⟨a1, vs, rfl, h1, r1⟩ := list_ok ok rx e1
        exact ⟨a1, n, vs, rfl, rfl, h1, hh.1, hh.2.1, by rw [r1.length, line_eq]; exact hh.2.2, (mkL_ok ok p (r1.rep n.toNat)).2⟩
      · exact p.elim
  | _ => exact p.elim) ha hb
end
end Sim

set_option Elab.async false
set_option linter.all false
set_option maxRecDepth 100000
set_option maxHeartbeats 4000000
/-! defs by name, isinstance, in, join -/
namespace Sim
open PySem PySem.Spec PyProof.Rows L2

/-! ### a def, by its name -/
def chk (n : Nat) (m : List D → Sto → Res D) : List D → Sto → Res D := fun ds st => if ds.length = n then m ds st else .bad
theorem chk_len {n : Nat} {m : List D → Sto → Res D} (ds : List D) (st : Sto) (h : chk n m ds st ≠ .bad) : ds.length = n := by
  unfold chk at h
  by_cases e : ds.length = n
  · exact e
  · rw [if_neg e] at h; exact absurd rfl h
structure Fn (P : Program) (w : World) (K : Frag) (mg : Str → Option Value) (base : Heap) (x : Str) (k n : Nat) (m : List D → Sto → Res D) : Prop where
  ex : ∃ (fd : FuncData) (ps : List Str), FnOk P w K mg base (CXp P w) k (He.ga K x) fd ps (spM K n m) ∧ Binds K fd ps []
  glo : mg x = some (.ref (He.ga K x))
  kp : PySem.W.keepIn K (.ref (He.ga K x)) = true
  len : ∀ ds st, m ds st ≠ .bad → ds.length = n
section
variable {X : Cx} {W : WX} {j k n : Nat} {x : Str} {p pos : Pos} {e : Expr} {es : List Expr} {ma : Am} {m : List D → Sto → Res D}
theorem se_fn (F : Fn X.prog X.w X.K X.mg X.base x k n m) (hr : Room j X.A) (hk : k ≤ j) (tk : Takes X W) (ha : SA X W (e :: es) ma)
    (hg : Gl X x := by rfl) (hdb : (x == ("__debug__" : Str)) = false := by decide) (he : starEach (e :: es) X.env = (false, eval e X.env) :: starEach es X.env := by rfl) (hpl : (backTo pos (starEach es X.env)).any (·.1) = false := by rfl) :
    SE X W (.Call (.Name x p) (e :: es) [] pos) (eCall m ma []) := by
  obtain ⟨fd, ps, G, hb⟩ := F.ex
  exact se_call G (hr.mono hk) F.glo F.kp hb .nil tk F.len (fun _ _ => .nil) ha hg hdb he hpl
end
section
variable {P : Program} {wd : World} {K : Frag} {mg : Str → Option Value} {base : Heap}
theorem runDef_chk {K : Frag} {N n : Nat} {m : Sm} : spM K n (chk n (runDef N m)) = spM K n (runDef N m) := by
  funext vs H Q E
  refine propext ⟨fun ⟨w, ds, a, b, c, l, p⟩ => ⟨w, ds, a, b, c, l, by unfold chk at p; rw [if_pos l] at p; exact p⟩, fun ⟨w, ds, a, b, c, l, p⟩ => ⟨w, ds, a, b, c, l, by unfold chk; rw [if_pos l]; exact p⟩⟩
/-- a def of the text, known by its name -/
theorem fn_name {x qual : Str} {params : Arguments} {body : List Stmt} {scope : Scope} {fd : FuncData} {N ps : List Str} {k : Nat} {m : Sm}
    (F : FunD K x qual params body scope [] [] (He.ga K x) fd) (S : FnScope N ps scope) (hg : mg x = some (.ref (He.ga K x))) (b : Binds K fd ps [])
    (hb : ∀ (cdv : Value) (A : Around) (outer : List Env) (s : Shared) (H : Hp) (E : XK), Room k (A.deeper (envOfC qual scope s.heap.objs.size (He.ga K x) cdv)) →
      SSs (cxOf (CXp P wd) P wd K mg base N qual scope (He.ga K x) cdv A outer s H E) (wOf E) body m) : Fn P wd K mg base x (k + 1) ps.length (chk ps.length (runDef N.length m)) :=
  ⟨⟨fd, ps, by rw [runDef_chk]; exact fn_sim F S hb, b⟩, hg, F.kp, chk_len⟩
theorem cx_takes {N : List Str} {qual : Str} {scope : Scope} {f : Addr} {cdv : Value} {A : Around} {outer : List Env} {s : Shared} {H : Hp} {E : XK} :
    Takes (cxOf (CXp P wd) P wd K mg base N qual scope f cdv A outer s H E) (wOf E) := takes_of rfl rfl rfl rfl
theorem cx_own {N : List Str} {qual : Str} {scope : Scope} {f : Addr} {cdv : Value} {A : Around} {outer : List Env} {s : Shared} {H : Hp} {E : XK} :
    PassesOwn (model P wd) (cxOf (CXp P wd) P wd K mg base N qual scope f cdv A outer s H E).A (cxOf (CXp P wd) P wd K mg base N qual scope f cdv A outer s H E).env (cxOf (CXp P wd) P wd K mg base N qual scope f cdv A outer s H E).xe :=
  passes_of (X := cxOf (CXp P wd) P wd K mg base N qual scope f cdv A outer s H E) rfl
/-- no mirror: nothing is promised -/
def mBad : Sm := fun _ _ => .bad
theorem sss_bad {X : Cx} {W : WX} {body : List Stmt} (h : ∃ t, PSs X body t) : SSs X W body mBad := by
  obtain ⟨t, h⟩ := h
  exact pss_imp h fun D σV H ⟨w, σ, e, ok, sl, p⟩ => p.elim
theorem sss_bad' {X : Cx} {W : WX} {body : List Stmt} {m : Sm} (h : SSs X W body m) : SSs X W body mBad := sss_bad ⟨_, h⟩
end

/-! ### isinstance -/
inductive Tg where
  | b (n : String) | c (C : Str)
def Tg.val (K : Frag) : Tg → Value
  | .b n => .type n
  | .c C => .ref (He.ga K C)
def tgOf (d : D) (st : Sto) : Option Tg := match d with
  | .non => some (.b "NoneType")
  | .bl _ => some (.b "bool")
  | .int _ => some (.b "int")
  | .str _ => some (.b "str")
  | .tup _ => some (.b "tuple")
  | .lst _ => some (.b "list")
  | .scr _ => some (.b "list")
  | .ins C _ => some (.c C)
  | .ref n => match st[n]? with
    | some (some (.lst _)) => some (.b "list")
    | some (some (.ins C _)) => some (.c C)
    | _ => none
  | .ty _ => none
section
variable {X : Cx} {pins : List (Addr × Obj)} {σ : L2.St} {H : Hp} {s : Shared}
theorem kit_rep {w : Wd} {x : V} {d : D} {u : Value} {t : Tg} (I : Inv X pins σ H s) (rx : RelV x u) (hH : w.H = H) (ok : Ok X.K w) (r : Rep X.K w x d) (ht : tgOf d w.st = some t) :
    ∃ P : Heap → Prop, PySem.W.KitX X.K u (t.val X.K) P ∧ P s.heap ∧ u ≠ .builtin "__main__.__loader__#opaque" := by
  subst hH
  cases r with
  | non => cases ht; exact kit_of I rx (.base .non)
  | bl b => cases ht; exact kit_of I rx (.base (.bl b))
  | int i => cases ht; exact kit_of I rx (.base (.int i))
  | str z => cases ht; exact kit_of I rx (.base (.str z))
  | ty n => cases ht
  | tup h ho hs =>
    cases ht
    rcases h with h | ⟨o, h⟩
    · exact kit_of I rx (.base (.tup h))
    · exact kit_of I rx (.fTuple h)
  | ktup h hs =>
    cases ht
    rcases h w.H with h | ⟨o, its, n, h1, h2, _⟩
    · rcases h with h | ⟨o, h⟩
      · exact kit_of I rx (.base (.tup h))
      · exact kit_of I rx (.fTuple h)
    · exact kit_of I rx (.kTuple h1 h2)
  | lst h hl ho hs => cases ht; exact kit_of I rx (.base (.lst h))
  | scr h hl ho hs => cases ht; exact kit_of I rx (.base (.frz h))
  | kscr h h2 hs => cases ht; obtain ⟨o, h3, h4⟩ := h2; exact kit_of I rx (.kList h3 h4)
  | ins h hl ho hs hc => cases ht; exact kit_of I rx (.base (.ins h hc.cls hc.cn hc.gt hc.tk hc.ob))
  | @exo a dx C fv fs h h2 hl hl2 ho ho2 hs hc =>
    cases ht
    cases (show u = Value.ref a from rx)
    have hx : ObjOk X.prog X.w w.H s.heap dx (.xd fv) := I.hok dx _ h2
    obtain ⟨mA, hns, hr⟩ := hx
    obtain ⟨od, hod, hl⟩ := lookIn_ns hns
    have z : ObjOk X.prog X.w w.H s.heap a (xo a (He.ga X.K C) dx) := I.hok a _ h
    obtain ⟨⟨o, vs, e1, e2, e3, e4⟩, _⟩ := z
    have J : PySem.W.InstAt s.heap a o (He.ga X.K C) (some od) := ⟨e1, e2, by unfold PySem.W.notCls; rw [e4] <;> rfl, by rw [e3]; exact hod⟩
    exact ⟨_, PySem.W.kitx_exc hc.cl hc.ga hc.gg hc.exC hc.cn hc.gt hc.tk hc.ob, J, fun z => nomatch z⟩
  | @ref a n h =>
    unfold tgOf at ht
    cases e : w.st[n]? with
    | none => simp only [e] at ht; cases ht
    | some o =>
      cases o with
      | none => simp only [e] at ht; cases ht
      | some o =>
        have ro := ok.obj n a o h e
        cases o with
        | lst ds =>
          simp only [e] at ht
          cases ht
          obtain ⟨vs, h1, h2⟩ := ro
          exact kit_of I rx (.base (.lst h1))
        | ins C fs =>
          simp only [e] at ht
          cases ht
          obtain ⟨dx, fv, h1, h2, hc⟩ := ro
          exact kit_of I rx (.base (.ins h1 hc.cls hc.cn hc.gt hc.tk hc.ob))
end
def rIsW (K : Frag) : List V → Hp → VK → Prop := fun xs H Q => ∃ (w : Wd) (x c : V) (d : D) (t : Tg) (u : Value) (b : Bool), xs = [x, c] ∧ w.H = H ∧ Ok K w ∧ Rep K w x d ∧ tgOf d w.st = some t ∧ ClsV c u ∧ PySem.W.kitOne K (t.val K) u = some b ∧ Q (.bl b) H
def rIsWT (K : Frag) : List V → Hp → VK → Prop := fun xs H Q => ∃ (w : Wd) (x : V) (tp : Addr) (cs : List V) (d : D) (t : Tg) (us : List Value) (b : Bool), xs = [x, .ref tp] ∧ w.H = H ∧ Ok K w ∧ Rep K w x d ∧ tgOf d w.st = some t ∧ H tp = some (.tup cs) ∧ Paired ClsV cs us ∧ PySem.W.kitAny K (t.val K) us = some b ∧ Q (.bl b) H
section
variable {X : Cx} {W : WX}
theorem call_isW : CallR X (.builtin "isinstance") (rIsW X.K) := by
  intro pins s σ H xs us Q I r h
  obtain ⟨w, x, c, d, t, u, b, rfl, hH, ok, rx, ht, k, e, q⟩ := h
  obtain ⟨u1, u2, rfl, r1, r2⟩ := vals2 r
  have e2 := k.eq r2
  subst e2
  obtain ⟨P, Z, p, hx⟩ := kit_rep I r1 hH ok rx ht
  exact PySem.W.kia_one Z I.kIn p e hx fun tk => ⟨.bl b, H, I.tok tk, rfl, q⟩
theorem call_isWT : CallR X (.builtin "isinstance") (rIsWT X.K) := by
  intro pins s σ H xs us Q I r h
  obtain ⟨w, x, tp, cs, d, t, ws, b, rfl, hH, ok, rx, ht, hT, k, e, q⟩ := h
  obtain ⟨u1, u2, rfl, r1, r2⟩ := vals2 r
  cases (show u2 = Value.ref tp from r2)
  obtain ⟨P, Z, p, hx⟩ := kit_rep I r1 hH ok rx ht
  obtain ⟨_, its, rv, o, h1, h2, n, h3⟩ := (show ObjOk X.prog X.w H s.heap tp (.tup cs) from I.hok tp _ hT)
  have e3 := ClsV.all k rv
  subst e3
  obtain ⟨oc, od, dt, sl⟩ := o
  simp only at h2 h3
  subst h2 h3
  exact PySem.W.kia_tup Z I.kIn p h1 e hx fun tk => ⟨.bl b, H, I.tok tk, rfl, q⟩
def isiD (f : Tg → Option Bool) : D → Sto → Res D := fun d st => match tgOf d st with
  | some t => (match f t with
    | some b => .ok (.bl b) st
    | none => .bad)
  | none => .bad
/-- a class, as it is written -/
structure ClsE (X : Cx) (e : Expr) (c : V) (u : Value) : Prop where
  ev : PE X e (tC c)
  cv : ClsV c u
theorem cls_ty {x : Str} {T : String} {pos : Pos} (hm : X.mg x = none) (hg : Gl X x := by rfl) (hv : bootBuiltins x = some (.type T) := by decide +kernel) (hn : x ≠ "__name__" := by decide) (hd : (x == ("__debug__" : Str)) = false := by decide) : ClsE X (.Name x pos) (.ty T) (.type T) :=
  ⟨pe_bltn hg hm hv rfl hn hd, .ty T⟩
theorem cls_own {x : Str} {pos : Pos} (hm : X.mg x = some (.ref (He.ga X.K x))) (hg : Gl X x := by rfl) (hd : (x == ("__debug__" : Str)) = false := by decide) : ClsE X (.Name x pos) (.ref (He.ga X.K x)) (.ref (He.ga X.K x)) :=
  ⟨pe_glob hg hm rfl hd, .own _⟩
theorem se_isi {e ce : Expr} {m : Em} {c : V} {u : Value} {f : Tg → Option Bool} {p pos : Pos} (hm : X.mg "isinstance" = none) (he : SE X W e m) (hc : ClsE X ce c u) (hf : ∀ t b, f t = some b → PySem.W.kitOne X.K (t.val X.K) u = some b)
    (hg : Gl X "isinstance" := by rfl) (hs : starEach [e, ce] X.env = (false, eval e X.env) :: starEach [ce] X.env := by rfl) (hs1 : starEach [ce] X.env = (false, eval ce X.env) :: starEach [] X.env := by rfl) (hpl : (backTo pos (starEach [ce] X.env)).any (·.1) = false := by rfl) :
    SE X W (.Call (.Name "isinstance" p) [e, ce] [] pos) (eUn (isiD f) m) :=
  pe_imp (pe_callB call_isW hg hm (by decide +kernel) (pa_cons he (pa_cons hc.ev pa_nil hs1) hs) (by decide) (by decide) hs hpl) fun σV H Q q => by
    obtain ⟨w, σ, rfl, ok, sl, p⟩ := q
    refine ⟨w, σ, rfl, ok, sl, PR.bind ok p fun d st x mu H1 e1 s1 ok1 r1 p1 => ?_⟩
    unfold isiD at p1
    cases e2 : tgOf d st with
    | none => rw [e2] at p1; exact p1.elim
    | some t =>
      cases e3 : f t with
      | none => simp only [e2, e3] at p1; exact p1.elim
      | some b =>
        simp only [e2, e3] at p1
        exact ⟨⟨mu, st, H1, w.op⟩, x, c, d, t, u, b, rfl, rfl, ok1, r1, e2, hc.cv, hf t b e3, PR.ret (R := Rep X.K) ok1 p1 (.bl b)⟩
theorem se_isi2 {e ce de : Expr} {m : Em} {c c2 : V} {u u2 : Value} {f : Tg → Option Bool} {p pos tp : Pos} {kt} (hm : X.mg "isinstance" = none) (he : SE X W e m) (hc : ClsE X ce c u) (hc2 : ClsE X de c2 u2) (hf : ∀ t b, f t = some b → PySem.W.kitAny X.K (t.val X.K) [u, u2] = some b)
    (hg : Gl X "isinstance" := by rfl) (hs : starEach [e, .Tuple [ce, de] kt tp] X.env = (false, eval e X.env) :: starEach [.Tuple [ce, de] kt tp] X.env := by rfl)
    (hs1 : starEach [.Tuple [ce, de] kt tp] X.env = (false, eval (.Tuple [ce, de] kt tp) X.env) :: starEach [] X.env := by rfl) (hpl : (backTo pos (starEach [.Tuple [ce, de] kt tp] X.env)).any (·.1) = false := by rfl)
    (ht1 : starEach [ce, de] X.env = (false, eval ce X.env) :: starEach [de] X.env := by rfl) (ht2 : starEach [de] X.env = (false, eval de X.env) :: starEach [] X.env := by rfl) :
    SE X W (.Call (.Name "isinstance" p) [e, .Tuple [ce, de] kt tp] [] pos) (eUn (isiD f) m) :=
  pe_imp (pe_callB call_isWT hg hm (by decide +kernel) (pa_cons he (pa_cons (pe_tup (pa_cons hc.ev (pa_cons hc2.ev pa_nil ht2) ht1)) pa_nil hs1) hs) (by decide) (by decide) hs hpl) fun σV H Q q => by
    obtain ⟨w, σ, rfl, ok, sl, p⟩ := q
    refine ⟨w, σ, rfl, ok, sl, PR.bind ok p fun d st x mu H1 e1 s1 ok1 r1 p1 => ?_⟩
    unfold isiD at p1
    cases e2 : tgOf d st with
    | none => rw [e2] at p1; exact p1.elim
    | some t =>
      cases e3 : f t with
      | none => simp only [e2, e3] at p1; exact p1.elim
      | some b =>
        simp only [e2, e3] at p1
        refine ⟨by rw [sizeLine_eq]; exact (by decide : 2 ≤ 16777216), fun q hq => ?_⟩
        have ok2 := put_ok (o := .tup [c, c2]) ok1 hq
        have s2 := put_step (w := ⟨mu, st, H1, w.op⟩) (o := .tup [c, c2]) hq
        exact ⟨Wd.put ⟨mu, st, H1, w.op⟩ q (.tup [c, c2]), x, q, [c, c2], d, t, [u, u2], b, rfl, rfl, ok2, r1.step s2 ok1, e2, upd_same, .cons hc.cv (.cons hc2.cv .nil), hf t b e3, PR.new (K := X.K) (w := ⟨mu, st, H1, w.op⟩) (v := .bl b) ok1 hq p1 (.bl b)⟩
def tyNames : List String := ["NoneType", "bool", "int", "str", "tuple", "list"]
/-- a built-in type T's instances -/
def isB (T : String) (cs : List Str) : Tg → Option Bool
  | .b n => if n ∈ tyNames then some (n == T || (n == "bool" && T == "int")) else none
  | .c C => if C ∈ cs then some false else none
def isB2 (T U : String) (cs : List Str) : Tg → Option Bool
  | .b n => if n ∈ tyNames then some ((n == T || (n == "bool" && T == "int")) || (n == U || (n == "bool" && U == "int"))) else none
  | .c C => if C ∈ cs then some false else none
theorem kit_b {K : Frag} {n T : String} (hn : n ∈ tyNames) (hT : T ∈ ["bool", "int", "str", "tuple", "list"]) : PySem.W.kitOne K (.type n) (.type T) = some (n == T || (n == "bool" && T == "int")) := by
  have key : (tyNames.all fun n => ["bool", "int", "str", "tuple", "list"].all fun T => decide (PySem.W.kitOne K (.type n) (.type T) = some (n == T || (n == "bool" && T == "int")))) = true := by kernel_rfl
  exact of_decide_eq_true (List.all_eq_true.mp (List.all_eq_true.mp key n hn) T hT)
theorem isB_ok {K : Frag} {T : String} {cs : List Str} (hT : T ∈ ["bool", "int", "str", "tuple", "list"]) (hc : ∀ C ∈ cs, PySem.W.kitOne K (.ref (He.ga K C)) (.type T) = some false) (t : Tg) (b : Bool) (h : isB T cs t = some b) : PySem.W.kitOne K (t.val K) (.type T) = some b := by
  cases t with
  | b n =>
    have h : (if n ∈ tyNames then some (n == T || (n == "bool" && T == "int")) else none) = some b := h
    by_cases hn : n ∈ tyNames
    · rw [if_pos hn] at h
      rw [← h]
      exact kit_b hn hT
    · rw [if_neg hn] at h; cases h
  | c C =>
    have h : (if C ∈ cs then some false else none) = some b := h
    by_cases hC : C ∈ cs
    · rw [if_pos hC] at h
      rw [← h]
      exact hc C hC
    · rw [if_neg hC] at h; cases h
theorem isB2_ok {K : Frag} {T U : String} {cs : List Str} (hT : T ∈ ["bool", "int", "str", "tuple", "list"]) (hU : U ∈ ["bool", "int", "str", "tuple", "list"]) (hc : ∀ C ∈ cs, PySem.W.kitOne K (.ref (He.ga K C)) (.type T) = some false) (hc2 : ∀ C ∈ cs, PySem.W.kitOne K (.ref (He.ga K C)) (.type U) = some false) (t : Tg) (b : Bool) (h : isB2 T U cs t = some b) :
    PySem.W.kitAny K (t.val K) [.type T, .type U] = some b := by
  have key : ∀ {v : Value} {p q : Bool}, PySem.W.kitOne K v (.type T) = some p → PySem.W.kitOne K v (.type U) = some q → PySem.W.kitAny K v [.type T, .type U] = some (p || q) := fun {v p q} h1 h2 => by
    unfold PySem.W.kitAny
    rw [h1]
    cases p with
    | true => rfl
    | false =>
      unfold PySem.W.kitAny
      simp only [h2]
      cases q <;> rfl
  cases t with
  | b n =>
    have h : (if n ∈ tyNames then some ((n == T || (n == "bool" && T == "int")) || (n == U || (n == "bool" && U == "int"))) else none) = some b := h
    by_cases hn : n ∈ tyNames
    · rw [if_pos hn] at h
      rw [← h]
      exact key (kit_b hn hT) (kit_b hn hU)
    · rw [if_neg hn] at h; cases h
  | c C =>
    have h : (if C ∈ cs then some false else none) = some b := h
    by_cases hC : C ∈ cs
    · rw [if_pos hC] at h
      rw [← h]
      exact key (hc C hC) (hc2 C hC)
    · rw [if_neg hC] at h; cases h
end

/-! ### in -/
def allS : List D → Option (List Str)
  | [] => some []
  | .str s :: r => (allS r).map (s :: ·)
  | _ => none
theorem allS_ok {K : Frag} {w : Wd} : ∀ {vs : List V} {ds : List D} {bs : List Str}, Reps K w vs ds → allS ds = some bs → vs = bs.map V.str
  | _, _, _, .nil, e => by cases e; rfl
  | _, _, _, .cons r t, e => by
    cases r with
    | str s =>
      unfold allS at e
      cases q : allS _ with
      | none => rw [q] at e; cases e
      | some l =>
        rw [q] at e
        cases e
        rw [allS_ok t q]
        rfl
    | _ => cases e
/-- x in (a tuple or list of texts) -/
def inSD (neg : Bool) : D → D → Sto → Res D := fun x y st => match x, itemsOf y st with
  | .str s, some ds => (match allS ds with
    | some ss => .ok (.bl (xor neg (decide (s ∈ ss)))) st
    | none => .bad)
  | _, _ => .bad
theorem inV_str (s : Str) (ss : List Str) : inV (.str s) (ss.map V.str) = decide (s ∈ ss) := by
  induction ss with
  | nil => rfl
  | cons a l ih =>
    have e : inV (.str s) ((a :: l).map V.str) = ((a == s) || inV (.str s) (l.map V.str)) := rfl
    rw [e, ih]
    by_cases h : a = s
    · subst h; simp
    · have h2 : ¬ s = a := fun z => h z.symm
      simp [h, h2]
theorem gop_inS {K : Frag} {neg : Bool} : GOp K (rIn K neg) (inSD neg) := by
  intro w x y dx dy Q E ok rx ry p
  unfold inSD at p
  cases rx with
  | str s =>
    cases e : itemsOf dy w.st with
    | none => simp only [e] at p; exact p.elim
    | some ds =>
      simp only [e] at p
      obtain ⟨a, vs, rfl, hq, rs⟩ := items_ok ok ry e
      cases e2 : allS ds with
      | none => simp only [e2] at p; exact p.elim
      | some ss =>
        simp only [e2] at p
        have e3 := allS_ok rs e2
        subst e3
        refine ⟨a, _, rfl, hq, rfl, ?_, ?_⟩
        · rw [List.all_map]; exact List.all_eq_true.mpr fun _ _ => rfl
        · have z := PR.ret (R := Rep K) ok p (.bl _)
          rw [inV_str]
          cases neg with
          | true => simpa using z
          | false => simpa using z
  | _ => exact p.elim
section
variable {X : Cx} {W : WX} {a b : Expr} {ma mb : Em} {pos : Pos}
theorem se_inS (ha : SE X W a ma) (hb : SE X W b mb) (hm : behindInMarks .In b = false := by rfl) : SE X W (.Compare a [.In] [b] pos) (eBin (inSD false) ma mb) := se_cmp op_in_seq gop_inS ha hb hm
theorem st_inS (ha : SE X W a ma) (hb : SE X W b mb) (hm : behindInMarks .In b = false := by rfl) : ST X W (.Compare a [.In] [b] pos) (tOf (eBin (inSD false) ma mb)) := st_cmp op_in_seq gop_inS ha hb hm
/-! ### join -/
def joinD (a : Str) (x : D) (st : Sto) : Res D := match itemsOf x st with
  | some ds => (match allS ds with
    | some ys => if (ys.map (·.length)).sum + ys.length * a.length ≤ 16777216 then .ok (.str (Txt.join a ys)) st else .bad
    | none => .bad)
  | _ => .bad
def eJoin (ma mb : Em) : Em := fun σ st => (ma σ st).bind fun x st1 => match x with
  | .str a => (mb σ st1).bind fun y st2 => joinD a y st2
  | _ => .bad
theorem joinD_ok {w : Wd} {z : Str} {d : D} {y : V} {Q : VK} {E : XK} (ok : Ok X.K w) (r : Rep X.K w y d) (p : PR X.K (Rep X.K) w (joinD z d w.st) Q E) :
    ∃ a p, ∃ ys : List Str, V.str z = .str a ∧ [y] = [V.ref p] ∧ (SqL X.K w.H p (ys.map V.str) ∨ SqT X.K w.H p (ys.map V.str)) ∧ (ys.map (·.length)).sum + ys.length * a.length ≤ 16777216 ∧ Q (.str (Txt.join a ys)) w.H := by
  unfold joinD at p
  cases e : itemsOf d w.st with
  | none => rw [e] at p; exact p.elim
  | some ds =>
    rw [e] at p
    obtain ⟨q, vs, rfl, hq, rs⟩ := items_ok ok r e
    cases e2 : allS ds with
    | none => simp only [e2] at p; exact p.elim
    | some ss =>
      simp only [e2] at p
      have e3 := allS_ok rs e2
      subst e3
      by_cases hl : (ss.map (·.length)).sum + ss.length * z.length ≤ 16777216
      · rw [if_pos hl] at p
        exact ⟨z, q, ss, rfl, rfl, hq, hl, PR.ret (R := Rep X.K) ok p (.str _)⟩
      · rw [if_neg hl] at p
        exact p.elim
theorem se_join {apos : Pos} (ho : SE X W a ma) (he : SE X W b mb) (hs : starEach [b] X.env = [(false, eval b X.env)] := by rfl) (hbase : attributeBase a "join" X.env (eval a X.env) = eval a X.env := by rfl) (hline : (apos.endLine == pos.line) = true := by rfl) :
    SE X W (.Call (.Attribute a "join" apos) [b] [] pos) (eJoin ma mb) := pe_imp (pe_join ho he hs hbase hline) fun σV H Q q => by
  obtain ⟨w, σ, rfl, ok, sl, p⟩ := q
  refine ⟨w, σ, rfl, ok, sl, PR.bind ok p fun d st x mu H1 e1 s1 ok1 r1 p1 => ?_⟩
  cases r1 with
  | str z =>
    have p1 : PR X.K (Rep X.K) ⟨mu, st, H1, w.op⟩ ((mb σ st).bind fun y st2 => joinD z y st2) Q (xk W σV) := p1
    refine ⟨⟨z, rfl⟩, ?_⟩
    refine ⟨⟨mu, st, H1, w.op⟩, σ, rfl, ok1, sl.step s1 ok, ?_⟩
    refine PR.bind ok1 p1 ?_
    intro d2 st2 y mu2 H2 e2 s2 ok2 r2 p2
    have z2 := joinD_ok (w := ⟨mu2, st2, H2, w.op⟩) ok2 r2 p2
    with_reducible exact z2
  | non => exact False.elim p1
  | bl b => exact False.elim p1
  | int b => exact False.elim p1
  | ty b => exact False.elim p1
  | tup h h2 h3 => exact False.elim p1
  | ktup h h2 => exact False.elim p1
  | lst h h2 h3 h4 => exact False.elim p1
  | scr h h2 h3 h4 => exact False.elim p1
  | kscr h h2 h3 => exact False.elim p1
  | ins h h2 h3 h4 h5 => exact False.elim p1
  | exo h h2 h3 h4 h5 h6 h7 h8 => exact False.elim p1
  | ref h => exact False.elim p1
end
end Sim

set_option Elab.async false
set_option linter.all false
set_option maxRecDepth 100000
set_option maxHeartbeats 4000000
/-! exceptions as values: making one, its fields -/
namespace PySem
namespace SimX
open PySem.W PySem.Calls PyProof.Rows
section
open Builtin Builtin.ObjectAttr
variable {prog : Program} {w : World} {A : Around} {E : Value → Shared → Prop} {R : Result → Shared → Prop} {hp : Heap} {g : Array GenState} {d : Drawn} {t : Nat} {os : OsState} {B : String} {bmB : List Value}
theorem has_cd {K : W.Frag} {C : Addr} {cd : ClassData} (hcd : W.clsIn K C = some cd) (hh : W.hasDictIn K C = true) : cd.hasDict = true := by
  unfold W.hasDictIn at hh
  rw [hcd] at hh
  exact hh
theorem osa_new {K : W.Frag} {name : Str} {tk : Tok} {v : Value} {x C : Addr} {fv : Array Value} {cd : ClassData} (SF : StoreFacts B bmB "object.__setattr__" "object")
    (X : K.In hp) (hx : hp.get? x = some { cls := .ref C, data := .fields fv }) (hcd : W.clsIn K C = some cd) (hp' : W.excOver K C bmB = true) (hh : W.hasDictIn K C = true) (ha : W.takerIn K C name = some none)
    (hq : ∀ h' tk' dx, (∀ b o, b ≠ x → hp.get? b = some o → h'.get? b = some o) → hp.objs.size ≤ dx → dx ≠ x → h'.get? x = some { cls := .ref C, dict := some dx, data := .fields fv } →
      h'.Ns1 dx (fun y => if y = name then some v else none) → R (.ok (.ret .none)) ⟨h', g, d, tk', os⟩) :
    codeAny (model prog w) A (.call (.builtin "object.__setattr__") ⟨[.ref x, .str name tk, v], []⟩) R ⟨hp, g, d, t, os⟩ := by
  have I : W.InstAt hp x { cls := .ref C, data := .fields fv } C none := ⟨hx, rfl, rfl, trivial⟩
  have hxs : x ≠ hp.objs.size := Nat.ne_of_lt (Heap.lt_size hx)
  have hcls : W.Looks (model prog w) hp (classData C) cd := W.looks_clsIn X hcd
  have hd := has_cd hcd hh
  refine W.osa_openX SF X I hp' ha fun b => ?_
  show wpAny _ _ (storeInOwnDict (.ref x) (.ref C) (.str name tk) name v b) _ _ _
  obtain ⟨nm, bs, mro, ns, qn, hdd, sn, sb, ab, col, del⟩ := cd
  dsimp only at hd
  subst hd
  unfold storeInOwnDict ownDictForStores
  repeat (first | with_reducible refine PySem.HandSPX.store_in_new ?_ ?_ | with_reducible refine wpAny_loadPart_at hx ?_ | with_reducible refine hcls.at ?_ | wp_step)
  · exact ⟨_, #[], _, (Heap.get?_update_ne _ _ _ _ hxs.symm).trans (Heap.get?_push_at rfl rfl), rfl, fun e he => absurd he (by simp), fun _ => rfl⟩
  · intro h' tk' hn' hs
    have hx₁ : (hp.push { cls := .type "dict", data := .dict #[] }).get? x = some { cls := .ref C, data := .fields fv } := Heap.get?_push_of_some _ hx
    refine hq h' tk' hp.objs.size (fun b o hb ho => ?_) (Nat.le_refl _) hxs.symm ?_ hn'
    · exact (hs.2 b (Nat.ne_of_lt (Heap.lt_size ho))).trans ((Heap.get?_update_ne _ _ _ _ hb).trans (Heap.get?_push_of_some _ ho))
    · exact (hs.2 x hxs).trans (Heap.get?_update_self _ hx₁ rfl)
theorem osa_old {K : W.Frag} {name : Str} {tk : Tok} {v : Value} {x C dx : Addr} {fv : Array Value} {cd : ClassData} {m0 : Str → Option Value} {nl : List Str} (SF : StoreFacts B bmB "object.__setattr__" "object")
    (X : K.In hp) (hx : hp.get? x = some { cls := .ref C, dict := some dx, data := .fields fv }) (hns : hp.Ns1 dx m0) (hw : Within m0 nl) (hz : nl.length ≤ 1000) (hcd : W.clsIn K C = some cd) (hp' : W.excOver K C bmB = true) (hh : W.hasDictIn K C = true) (ha : W.takerIn K C name = some none)
    (hq : ∀ h' tk', (∀ b o, b ≠ dx → hp.get? b = some o → h'.get? b = some o) → h'.Ns1 dx (fun y => if y = name then some v else m0 y) → R (.ok (.ret .none)) ⟨h', g, d, tk', os⟩) :
    codeAny (model prog w) A (.call (.builtin "object.__setattr__") ⟨[.ref x, .str name tk, v], []⟩) R ⟨hp, g, d, t, os⟩ := by
  obtain ⟨oD, esD, epD, hoD, hdD, _⟩ := hns.count hw
  have I : W.InstAt hp x { cls := .ref C, dict := some dx, data := .fields fv } C (some oD) := ⟨hx, rfl, rfl, hoD⟩
  have hcls : W.Looks (model prog w) hp (classData C) cd := W.looks_clsIn X hcd
  have hd := has_cd hcd hh
  refine W.osa_openX SF X I hp' ha fun b => ?_
  show wpAny _ _ (storeInOwnDict (.ref x) (.ref C) (.str name tk) name v b) _ _ _
  obtain ⟨nm, bs, mro, ns, qn, hdd, sn, sb, ab, col, del⟩ := cd
  dsimp only at hd
  subst hd
  unfold storeInOwnDict ownDictForStores
  repeat (first | with_reducible refine PySem.OEX.store_in_old hns hw hz ?_ | with_reducible refine wpAny_loadPart_at hx ?_ | with_reducible refine hcls.at ?_ | wp_step)
  intro h' tk' hn' hs
  exact hq h' tk' (fun b o hb ho => (hs.2 b hb).trans ho) hn'
end
end SimX
end PySem
namespace Sim
open PySem PySem.Spec PyProof.Rows L2
/-- what the written part says of an exception class of the program, over any built-in base, with an __init__ of its own -/
structure ExG (K : Frag) (C : Addr) : Prop where
  base : ∃ (B newId initId : String) (bmB : List Value), ExcBaseFacts B newId initId bmB ∧ StoreFacts B bmB "object.__setattr__" "object" ∧ PySem.W.excInitIn K C bmB newId = true ∧ PySem.W.excOver K C bmB = true
  hd : PySem.W.hasDictIn K C = true
  sa : PySem.W.findIn K (.ref C) "__setattr__" = some (some (.builtin "object.__setattr__"))
  kC : PySem.W.keepIn K (.ref C) = true
section
variable {X : Cx} {pins : List (Addr × Obj)} {σ : L2.St} {H : Hp} {s : Shared} {a C dx : Addr} {f : Str} {y : V} {u : Value} {fs : List (Str × V)} {Q : Unit → Shared → Prop} {E : Value → Shared → Prop} {A : Around}
theorem ExG.cd {K : Frag} (T : ExG K C) : ∃ cd, PySem.W.clsIn K C = some cd := by
  obtain ⟨B, n, i, bm, _, _, _, q⟩ := T.base
  unfold PySem.W.excOver at q
  cases e : PySem.W.clsIn K C with
  | none => rw [e] at q; cases q
  | some cd => exact ⟨cd, rfl⟩
theorem ostG_new (T : ExG X.K C) (I : Inv X pins σ H s) (e : H a = some (exo a C none)) (hno : PySem.W.findIn X.K (.ref C) f = some none) (ry : RelV y u)
    (h : ∀ dx s', H dx = none → dx ≠ a → Inv X pins σ (upd (upd H dx (exd dx [(f, y)])) a (exo a C (some dx))) s' → Q () s') : wpAny (model X.prog X.w) A (setAttr (.ref a) f u) Q E s := by
  obtain ⟨cd, hcl⟩ := T.cd
  obtain ⟨B, n, i, bm, FB, SF, _, ov⟩ := T.base
  obtain ⟨t1, ho⟩ := exo_at I.hok e
  obtain ⟨hp, g, d, t, os⟩ := s
  refine PySem.W.set_plain I.kIn (ox := { cls := .ref C, dict := none, data := .fields #[.ref t1, .none, .none, .none, .bool false, .none] }) (od := none) ⟨ho, rfl, rfl, trivial⟩ T.sa ?_
  refine PySem.SimX.osa_new SF I.kIn ho hcl ov T.hd (NoAttr.taker hno) (fun h' tk' dx k dn dne hx hn => ?_)
  have hnd : H dx = none := I.hok.fresh dn
  have nd : ∀ {b : Addr} {o : Obj}, hp.get? b = some o → b ≠ dx := fun {b o} q => Nat.ne_of_lt (Nat.lt_of_lt_of_le (Heap.lt_size q) dn)
  have na : ∀ {b : Addr}, H b = none → b ≠ a := fun {b} n z => by
    rw [z, e] at n
    cases n
  have Un1 : Un X.fs [] H (upd (upd H dx (exd dx [(f, y)])) a (exo a C (some dx))) hp h' := {
    keep := fun b o q n _ _ => k b o (na n) q
    slot := fun b o q n _ _ => ⟨o.slots, k b o (na n) q⟩
    free := fun b o q n _ => by rw [upd_ne (na n), upd_ne (nd q)]; exact n
    there := fun b o q _ => by
      by_cases hb : b = a
      · exact ⟨_, by rw [hb]; exact hx⟩
      · exact ⟨o, k b o hb q⟩
    tups := fun b xs q => by rw [upd_ne (at_ne e q exo_tup), upd_ne (ne_of_none q hnd)]; exact q
    frzs := fun b o v q => by rw [upd_ne (at_ne e q exo_frz), upd_ne (ne_of_none q hnd)]; exact q
    tbls := fun b ps q => ⟨#[], by rw [upd_ne (at_ne e q exo_tbl), upd_ne (ne_of_none q hnd), q]; simp⟩ }
  refine h dx _ hnd dne (I.un (t' := tk') Un1 fun b o q => ?_)
  by_cases hb : b = a
  · subst hb
    rw [upd_same] at q
    cases q
    exact exo_ok hx
  · rw [upd_ne hb] at q
    by_cases hd : b = dx
    · subst hd
      rw [upd_same] at q
      cases q
      exact exd_ok hn (relO_put (fs := []) ry fun g => True.intro)
    · rw [upd_ne hd] at q
      exact (I.hok b o q).stay (fun c v hc z => k c v (by
          rcases hc with hc | hc
          · rw [hc]
            exact hb
          · exact at_ne e hc exo_own) z)
        (fun c hc => by rw [upd_ne (at_ne e hc exo_own), upd_ne (ne_of_none hc hnd)]; exact hc) (fun c xs hc => by rw [upd_ne (at_ne e hc exo_tup), upd_ne (ne_of_none hc hnd)]; exact hc)
theorem ostG_old (T : ExG X.K C) (I : Inv X pins σ H s) (e : H a = some (exo a C (some dx))) (ed : H dx = some (exd dx fs)) (hl : fs.length ≤ 900) (hno : PySem.W.findIn X.K (.ref C) f = some none) (ry : RelV y u)
    (h : ∀ s', Inv X pins σ (upd H dx (exd dx ((f, y) :: fs))) s' → Q () s') : wpAny (model X.prog X.w) A (setAttr (.ref a) f u) Q E s := by
  obtain ⟨cd, hcl⟩ := T.cd
  obtain ⟨B, n, i, bm, FB, SF, _, ov⟩ := T.base
  obtain ⟨t1, ho⟩ := exo_at I.hok e
  obtain ⟨mA, hns, rel⟩ := exd_at I.hok ed
  have hw := within_of rel
  obtain ⟨hp, g, d, t, os⟩ := s
  obtain ⟨oD, _, _, hoD, _, _⟩ := hns.count hw
  refine PySem.W.set_plain I.kIn (ox := { cls := .ref C, dict := some dx, data := .fields #[.ref t1, .none, .none, .none, .bool false, .none] }) (od := some oD) ⟨ho, rfl, rfl, hoD⟩ T.sa ?_
  refine PySem.SimX.osa_old SF I.kIn ho hns hw (by rw [List.length_map]; omega) hcl ov T.hd (NoAttr.taker hno) (fun h' tk' k hn => ?_)
  have hd : ∃ o, h'.get? dx = some o := by
    obtain ⟨o, _, _, e', _⟩ := hn
    exact ⟨o, e'⟩
  exact h _ (I.write (t' := tk') (x := dx) (e := dx) (o := exd dx ((f, y) :: fs)) (by rw [ed]; exact True.intro) (.inl rfl) k hd (exd_ok hn (relO_put ry rel)))
end
/-- self.f = e in an exception's __init__ -/
def tOsG (K : Frag) (f : Str) (to te : TE) : TS := fun D σ H => te σ H fun y H1 => to σ H1 fun x H2 => ∃ a C : Addr, x = .ref a ∧ ExG K C ∧ PySem.W.findIn K (.ref C) f = some none ∧
  ((H2 a = some (exo a C none) ∧ ∀ dx, H2 dx = none → dx ≠ a → D.nx σ (upd (upd H2 dx (exd dx [(f, y)])) a (exo a C (some dx)))) ∨
    ∃ (dx : Addr) (fs : List (Str × V)), H2 a = some (exo a C (some dx)) ∧ H2 dx = some (exd dx fs) ∧ fs.length ≤ 900 ∧ D.nx σ (upd H2 dx (exd dx ((f, y) :: fs))))
theorem ps_osG {X : Cx} {o e : Expr} {to te : TE} {f : Str} {p' pos : Pos} (ho : PE X o to) (he : PE X e te) (hs : swapsWith e (some (.Attribute o f p')) pos.line X.env = pure false := by rfl) : PS X (.Assign [.Attribute o f p'] e pos) (tOsG X.K f to te) := by
  refine ⟨fun pins s σ H D I h => ?_⟩
  refine plainObj_wpAny_Assign_Attribute (thn (he.run pins s σ H _ I h) fun v s1 ⟨y, H1, I1, r1, q1⟩ => thn (ho.run pins s1 σ H1 _ I1 q1) fun u s2 ⟨x, H2, I2, r2, a, C, ex, T, hno, q⟩ => ?_) hs
  subst ex
  obtain rfl : u = Value.ref a := r2
  rcases q with ⟨ea, q⟩ | ⟨dx, fs, ea, ed, hl, q⟩
  · exact ostG_new T I2 ea hno r1 fun dx s' n ne J => ⟨σ, _, J, q dx n ne⟩
  · exact ostG_old T I2 ea ed hl hno r1 fun s' J => ⟨σ, _, J, q⟩
end Sim

set_option Elab.async false
set_option linter.all false
set_option maxRecDepth 100000
set_option maxHeartbeats 4000000
namespace PySem
namespace SimX
open PySem.W PySem.Calls PyProof.Rows PySem.HandSPX
section
variable {M : Model} {A : Around} {E : Value → Shared → Prop} {h : Heap} {g : Array GenState} {d : Drawn} {t : Nat} {os : OsState}
variable {nm q : Str} {C N : Addr} {bs bm bmB : List Value} {hdct : Bool} {sn : List Str} {sub : List Value} {ab : Bool} {col : Option Bool} {dd : Option Addr} {k0 k1 k2 k3 k5 : Option Value} {B newId initId : String}
theorem check_newK (F : ExcBaseFacts B newId initId bmB) (hT : ∀ X : String, bm.contains (.type X) = bmB.contains (.type X)) {rest : List Value} {kw : List (Str × Value)} {Q : Unit → Shared → Prop}
    (hC : h.get? C = some (excClassObj nm q C N bs bm hdct sn sub ab col dd k0 k1 k2 k3 k5 newId)) (hq : Q () ⟨h, g, d, t, os⟩) : wpAny M A (checkBuiltinCall newId ⟨.ref C :: rest, kw⟩) Q E ⟨h, g, d, t, os⟩ := by
  have hcont : (Value.ref C :: bm).contains (.type B) = true := by rw [List.contains_cons, hT, F.hasB, Bool.or_true]
  have hstar := F.noStar
  simp only [checkBuiltinCall, F.newKind, F.newSplit, F.newRow]
  repeat (first | refine wpAny_loadPart_at hC ?_ | (refine wpAny_isSubtype_exc hC ?_; rw [hcont]) | refine wpAny_staticBase_exc hC ?_ | refine wpAny_madeBy_exc hC ?_ | simp only [bne_self_eq_false, Bool.false_eq_true, if_false] | wp_step)
  exact hq
end
section
variable {prog : Program} {w : World} {A : Around} {E : Value → Shared → Prop} {R : Result → Shared → Prop} {h : Heap} {g : Array GenState} {d : Drawn} {t : Nat} {os : OsState}
variable {nm q : Str} {C N : Addr} {bs bm bmB : List Value} {hdct : Bool} {sn : List Str} {sub : List Value} {ab : Bool} {col : Option Bool} {dd : Option Addr} {k0 k1 k2 k3 k5 : Option Value} {B newId initId : String}
theorem newK (F : ExcBaseFacts B newId initId bmB) (hT : ∀ X : String, bm.contains (.type X) = bmB.contains (.type X)) {rest : List Value} {kw : List (Str × Value)}
    (hC : h.get? C = some (excClassObj nm q C N bs bm hdct sn sub ab col dd k0 k1 k2 k3 k5 newId))
    (hq : R (.ok (.ret (.ref (h.objs.size + 1)))) ⟨(h.push { cls := .type "tuple", data := .seq rest.toArray }).push
      { cls := .ref C, data := .fields #[.ref h.objs.size, .none, .none, .none, .bool false, .none] }, g, d, t, os⟩) (hrest : rest.length ≤ sizeLine) :
    codeAny (model prog w) A (.builtin newId ⟨.ref C :: rest, kw⟩) R ⟨h, g, d, t, os⟩ := by
  have hends := F.ends
  have hcB : (Value.ref C :: bm).contains (.type B) = true := by rw [List.contains_cons, hT, F.hasB, Bool.or_true]
  have hcA : (Value.ref C :: bm).contains (.type "AttributeError") = false := by rw [List.contains_cons, hT, F.noAttr]; rfl
  have hcN : (Value.ref C :: bm).contains (.type "NameError") = false := by rw [List.contains_cons, hT, F.noName]; rfl
  refine codeAny_builtinAt F.entry ?_
  unfold Builtin.«BaseException.__new__»
  refine wpAt_bind ?_
  show wpAt _ _ _ (stack >>= _) _ _ _
  refine wpAt_bind (wpAt_stack fun p below => wpAt_of_wpAny ?_)
  wp_walk
  refine wpAt_of_wpAny ?_
  rw [F.owner]
  repeat (first | with_reducible refine wpAny_madeHere_exc F.canon hC ?_ | with_reducible refine wpAny_loadPart_at hC ?_ | (with_reducible refine wpAny_isSubtype_exc hC ?_; first | rw [hcB] | rw [hcA] | rw [hcN]) | wp_step)
  show R _ _
  rw [Heap.size_push]
  exact hq
theorem type_callK (F : ExcBaseFacts B newId initId bmB) (hT : ∀ X : String, bm.contains (.type X) = bmB.contains (.type X)) {rest : List Value} {kw : List (Str × Value)} {fI : Addr} {Q : Fin → Shared → Prop}
    (hC : h.get? C = some (excClassObj nm q C N bs bm hdct sn sub ab col dd k0 k1 k2 k3 k5 newId))
    (hi : W.Looks (model prog w) h (typeLookup (.ref C) "__init__") (some (.ref fI))) (hb : ∀ self, W.Looks (model prog w) h (bindSpecial (.ref fI) self) (.ref fI, [self])) (hrest : rest.length ≤ sizeLine)
    (hq : codeAny (model prog w) A (.call (.ref fI) ⟨.ref (h.objs.size + 1) :: rest, kw⟩)
      (fun r s' => match r with | .ok (.ret v) => v = .none ∧ Q (.done (.ret (.ref (h.objs.size + 1)))) s' | .ok _ => False | .error e => E e s')
      ⟨(h.push (W.kdv_tup rest)).push (excO C h.objs.size), g, d, t, os⟩) :
    wpAny (model prog w) A (Builtin.«type.__call__» ⟨.ref C :: rest, kw⟩) Q E ⟨h, g, d, t, os⟩ := by
  repeat (first | with_reducible refine wpAny_loadPart_at hC ?_ | with_reducible refine wpAny_madeBy_exc hC ?_ | wp_step)
  refine codeAny_call_builtin_code (Code.quiet_builtin _ F.quiet) (check_newK F hT hC ?_)
  refine newK F hT hC ?_ hrest
  show wpAny _ _ _ _ _ _
  have k : ∀ b o, h.get? b = some o → ((h.push (W.kdv_tup rest)).push (excO C h.objs.size)).get? b = some o := fun b o e => Heap.get?_push_of_some _ (Heap.get?_push_of_some _ e)
  have hC₁ := k _ _ hC
  have hget : ((h.push (W.kdv_tup rest)).push (excO C h.objs.size)).get? (h.objs.size + 1) = some (excO C h.objs.size) := by heap_get
  have hcC : (Value.ref C :: bm).contains (.ref C) = true := by simp
  have i1 := hi.keeps k
  have b1 := (hb (.ref (h.objs.size + 1))).keeps k
  unfold isInstance
  repeat (first | with_reducible refine wpAny_loadPart_at hget ?_ | (with_reducible refine wpAny_isSubtype_exc hC₁ ?_; rw [hcC]) | wp_step)
  show wpAny _ _ (typeLookup (.ref C) _) _ _ _
  refine i1.at ?_
  refine wpAny_holding (wpAny_bind (b1.at ?_))
  refine wpAny_bind (wpAny_call (codeAny_mono hq fun r s' z => ?_))
  rcases r with e | (v | _ | _ | _) <;> first | exact z | exact z.elim | skip
  obtain ⟨rfl, z⟩ := z
  first
    | exact wpAny_pure (wpAny_pure z)
    | (wp_walk; exact z)
theorem check_tcK {rest : List Value} {kw : List (Str × Value)} {Q : Unit → Shared → Prop} {M : Model} (hC : h.get? C = some (excClassObj nm q C N bs bm hdct sn sub ab col dd k0 k1 k2 k3 k5 newId))
    (hq : Q () ⟨h, g, d, t, os⟩) : wpAny M A (checkBuiltinCall "type.__call__" ⟨.ref C :: rest, kw⟩) Q E ⟨h, g, d, t, os⟩ := by
  have f3 := tc_sub
  have hT : (⟨h, g, d, t, os⟩ : Shared).TypeIs (.ref C) "type" := ⟨_, hC, rfl⟩
  simp only [checkBuiltinCall, tc_kind, tc_split]
  repeat (any_goals (first | assumption | with_reducible refine wpAny_loadPart_at hC ?_ | with_reducible refine wpAny_onRaise ?_ | with_reducible refine wpAny_map ?_ | wp_step))
theorem callK (F : ExcBaseFacts B newId initId bmB) (hT : ∀ X : String, bm.contains (.type X) = bmB.contains (.type X)) {rest : List Value} {kw : List (Str × Value)} {fI : Addr}
    (hC : h.get? C = some (excClassObj nm q C N bs bm hdct sn sub ab col dd k0 k1 k2 k3 k5 newId))
    (hi : W.Looks (model prog w) h (typeLookup (.ref C) "__init__") (some (.ref fI))) (hb : ∀ self, W.Looks (model prog w) h (bindSpecial (.ref fI) self) (.ref fI, [self])) (hrest : rest.length ≤ sizeLine)
    (hq : codeAny (model prog w) (A.under (.builtin "type.__call__" ⟨.ref C :: rest, kw⟩)) (.call (.ref fI) ⟨.ref (h.objs.size + 1) :: rest, kw⟩) (W.InitBack (h.objs.size + 1) R)
      ⟨(h.push (W.kdv_tup rest)).push (excO C h.objs.size), g, d, t, os⟩) :
    codeAny (model prog w) A (.call (.ref C) ⟨rest, kw⟩) R ⟨h, g, d, t, os⟩ := by
  have f1 := tc_lookup
  have f2 := tc_bind (.ref C)
  have hTy : (⟨h, g, d, t, os⟩ : Shared).TypeIs (.ref C) "type" := ⟨_, hC, rfl⟩
  refine codeAny_of_tree ?_
  show wpAny _ _ (callAny (.ref C) _) _ _ _
  repeat (any_goals (first | assumption | with_reducible refine wpAny_loadPart_at hC ?_ | wp_step))
  refine ⟨rfl, ?_⟩
  refine codeAny_call_builtin_at (Code.quiet_builtin _ (by decide +kernel)) entry_typeCall (check_tcK hC (type_callK F hT hC hi hb hrest ?_))
  refine codeAny_mono hq fun r s' z => ?_
  rcases r with e | (v | _ | _ | _) <;> exact z
end
end SimX
end PySem

set_option Elab.async false
set_option linter.all false
set_option maxRecDepth 100000
set_option maxHeartbeats 4000000
namespace Sim
open PySem PySem.Spec PyProof.Rows L2
/-! ### an exception that is being made: its __init__ -/
inductive Fl where
  | a (i : Nat) | s (z : Str)
def Fl.v (vs : List V) : Fl → Option V
  | .a i => vs[i]?
  | .s z => some (.str z)
def Fl.d (vs : List D) : Fl → Option D
  | .a i => vs[i]?
  | .s z => some (.str z)
def tpV : List (Str × Fl) → List V → Option (List (Str × V))
  | [], _ => some []
  | (f, l) :: r, vs => match l.v vs, tpV r vs with
    | some x, some xs => some ((f, x) :: xs)
    | _, _ => none
def tpD : List (Str × Fl) → List D → Option (List (Str × D))
  | [], _ => some []
  | (f, l) :: r, vs => match l.d vs, tpD r vs with
    | some x, some xs => some ((f, x) :: xs)
    | _, _ => none
theorem tpD_rep {K : Frag} {w : Wd} {vs : List V} {ds : List D} (r : Reps K w vs ds) : ∀ {tp : List (Str × Fl)} {fs : List (Str × D)}, tpD tp ds = some fs → ∃ fv, tpV tp vs = some fv ∧ RepF K w fv fs ∧ fs.map (·.1) = tp.map (·.1)
  | [], fs, e => by cases e; exact ⟨[], rfl, .nil, rfl⟩
  | (f, l) :: tp, fs, e => by
    unfold tpD at e
    cases e1 : l.d ds with
    | none => simp only [e1] at e; cases e
    | some x =>
      cases e2 : tpD tp ds with
      | none => simp only [e1, e2] at e; cases e
      | some xs =>
        simp only [e1, e2] at e
        cases e
        obtain ⟨fv, h1, h2, h3⟩ := tpD_rep r e2
        have : ∃ v, l.v vs = some v ∧ Rep K w v x := by
          cases l with
          | a i => exact r.get e1
          | s z => cases e1; exact ⟨_, rfl, .str z⟩
        obtain ⟨v, h4, h5⟩ := this
        refine ⟨(f, v) :: fv, ?_, .cons h5 h2, by simp [h3]⟩
        unfold tpV
        simp only [h4, h1]
def spI (C : Addr) (n : Nat) (tp : List (Str × Fl)) : Sp := fun vs H Q _ => ∃ (a : Addr) (ws : List V) (fs : List (Str × V)), vs = .ref a :: ws ∧ ws.length = n ∧ H a = some (exo a C none) ∧ tpV tp ws = some fs ∧ ∀ d, H d = none → d ≠ a → Q .non (upd (upd H d (exd d fs)) a (exo a C (some d)))
theorem spI.len {C : Addr} {n : Nat} {tp : List (Str × Fl)} {vs : List V} {H : Hp} {Q : VK} {E : XK} (h : spI C n tp vs H Q E) : vs.length = n + 1 := by
  obtain ⟨a, ws, fs, rfl, l, _⟩ := h
  simp [l]
theorem upd2 {H : Hp} {a d : Addr} {x y z : HO} (h : d ≠ a) : upd (upd (upd H d x) a y) d z = upd (upd H d z) a y := by
  funext b
  by_cases h1 : b = d
  · subst h1; rw [upd_same, upd_ne h, upd_same]
  · rw [upd_ne h1]
    by_cases h2 : b = a
    · subst h2; rw [upd_same, upd_same]
    · rw [upd_ne h2, upd_ne h2, upd_ne h1, upd_ne h1]
section
variable {P : Program} {w : World} {K : Frag} {mg : Str → Option Value} {base : Heap} {C fI : Addr} {fd : FuncData} {qual : Str} {params : Arguments} {scope : Scope} {p1 p2 p3 p4 q1 q2 q3 q4 r1 r2 r3 r4 : Pos}
/-- code alone -/
theorem ok_init1 {z : Str} {j} (T : ExG K C) (h1 : PySem.W.findIn K (.ref C) "code" = some none)
    (F : FunD K "__init__" qual params [.Assign [.Attribute (.Name "self" p1) "code" p2] (.Constant (.str z) j p3) p4] scope [] [] fI fd) (S : FnScope ["self"] ["self"] scope) :
    FnOk P w K mg base (CXp P w) 1 fI fd ["self"] (spI C 0 [("code", .s z)]) := by
  have hself : Vis scope "self" := by
    rcases S.par "self" (by simp) with h | h
    · exact .inl h
    · exact .inr (.inl h)
  refine F.ok S (fun vs H Q E h => h.len) fun cdv A outer s H vs Q E hr h => ⟨_, pss_one (ps_osG (pe_var (i := 0) rfl hself) pe_str), ?_⟩
  obtain ⟨a, ws, fs, rfl, l, ha, e, q⟩ := h
  cases ws with
  | cons _ _ => cases l
  | nil =>
    cases e
    exact ⟨_, rfl, a, C, rfl, T, h1, .inl ⟨ha, fun dx hd hn => q dx hd hn⟩⟩
theorem ok_init2 {f : Str} {z : Str} {j} (T : ExG K C) (hf : (f == ("__debug__" : Str)) = false) (hc : (f == ("__classdict__" : Str)) = false) (h1 : PySem.W.findIn K (.ref C) "code" = some none) (h2 : PySem.W.findIn K (.ref C) f = some none)
    (F : FunD K "__init__" qual params [.Assign [.Attribute (.Name "self" p1) f p2] (.Name f p3) p4, .Assign [.Attribute (.Name "self" q1) "code" q2] (.Constant (.str z) j q3) q4] scope [] [] fI fd) (S : FnScope ["self", f] ["self", f] scope) :
    FnOk P w K mg base (CXp P w) 1 fI fd ["self", f] (spI C 1 [("code", .s z), (f, .a 0)]) := by
  have hself : Vis scope "self" := by
    rcases S.par "self" (by simp) with h | h
    · exact .inl h
    · exact .inr (.inl h)
  have hv : Vis scope f := by
    rcases S.par f (by simp) with h | h
    · exact .inl h
    · exact .inr (.inl h)
  refine F.ok S (fun vs H Q E h => h.len) fun cdv A outer s H vs Q E hr h => ⟨_, pss_cons (ps_osG (pe_var (i := 0) rfl hself) (pe_var (i := 1) rfl hv hf hc)) (pss_one (ps_osG (pe_var (i := 0) rfl hself) pe_str)), ?_⟩
  obtain ⟨a, ws, fs, rfl, l, ha, e, q⟩ := h
  match ws, l with
  | [x], _ =>
    cases e
    refine ⟨x, rfl, _, rfl, a, C, rfl, T, h2, .inl ⟨ha, fun dx hd hn => ?_⟩⟩
    refine ⟨_, rfl, a, C, rfl, T, h1, .inr ⟨dx, _, upd_same, by rw [upd_ne hn, upd_same], by simp, ?_⟩⟩
    rw [upd2 hn]
    exact q dx hd hn
theorem ok_init3 {f g : Str} {z : Str} {j} (T : ExG K C) (hf : (f == ("__debug__" : Str)) = false) (hc : (f == ("__classdict__" : Str)) = false) (hg : (g == ("__debug__" : Str)) = false) (hgc : (g == ("__classdict__" : Str)) = false)
    (h1 : PySem.W.findIn K (.ref C) "code" = some none) (h2 : PySem.W.findIn K (.ref C) f = some none) (h3 : PySem.W.findIn K (.ref C) g = some none)
    (F : FunD K "__init__" qual params [.Assign [.Attribute (.Name "self" p1) f p2] (.Name f p3) p4, .Assign [.Attribute (.Name "self" r1) g r2] (.Name g r3) r4, .Assign [.Attribute (.Name "self" q1) "code" q2] (.Constant (.str z) j q3) q4] scope [] [] fI fd) (S : FnScope ["self", f, g] ["self", f, g] scope) :
    FnOk P w K mg base (CXp P w) 1 fI fd ["self", f, g] (spI C 2 [("code", .s z), (g, .a 1), (f, .a 0)]) := by
  have hself : Vis scope "self" := by
    rcases S.par "self" (by simp) with h | h
    · exact .inl h
    · exact .inr (.inl h)
  have hv : Vis scope f := by
    rcases S.par f (by simp) with h | h
    · exact .inl h
    · exact .inr (.inl h)
  have hv2 : Vis scope g := by
    rcases S.par g (by simp) with h | h
    · exact .inl h
    · exact .inr (.inl h)
  refine F.ok S (fun vs H Q E h => h.len) fun cdv A outer s H vs Q E hr h => ⟨_, pss_cons (ps_osG (pe_var (i := 0) rfl hself) (pe_var (i := 1) rfl hv hf hc)) (pss_cons (ps_osG (pe_var (i := 0) rfl hself) (pe_var (i := 2) rfl hv2 hg hgc)) (pss_one (ps_osG (pe_var (i := 0) rfl hself) pe_str))), ?_⟩
  obtain ⟨a, ws, fs, rfl, l, ha, e, q⟩ := h
  match ws, l with
  | [x, y], _ =>
    cases e
    refine ⟨x, rfl, _, rfl, a, C, rfl, T, h2, .inl ⟨ha, fun dx hd hn => ?_⟩⟩
    refine ⟨y, rfl, _, rfl, a, C, rfl, T, h3, .inr ⟨dx, _, upd_same, by rw [upd_ne hn, upd_same], by simp, ?_⟩⟩
    rw [upd2 hn]
    refine ⟨_, rfl, a, C, rfl, T, h1, .inr ⟨dx, _, upd_same, by rw [upd_ne hn, upd_same], by simp, ?_⟩⟩
    rw [upd2 hn]
    exact q dx hd hn
end
/-! ### binding by keywords -/
def gB (rv : Bool) {α : Type} (us ws : List α) : List α := us ++ (if rv = true then ws.reverse else ws)
theorem Vals.gB {rv : Bool} {vs zs : List V} {us ws : List Value} (r : Vals vs us) (s : Vals zs ws) : Vals (Sim.gB rv vs zs) (Sim.gB rv us ws) := by
  unfold Sim.gB
  refine r.append ?_
  cases rv with
  | false => exact s
  | true =>
    rw [if_pos rfl, if_pos rfl]
    clear r
    induction s with
    | nil => exact .nil
    | cons h t ih =>
      rw [List.reverse_cons, List.reverse_cons]
      exact ih.append (.cons h .nil)
theorem kbn {K : Frag} {x qual : Str} {params : Arguments} {body : List Stmt} {scope : Scope} {f : Addr} {fd : FuncData} {ps : List Str} (F : FunD K x qual params body scope [] [] f fd) (n : Nat) (ks : List Str) (rv : Bool)
    (h : ∀ (kV doc pm : Value) (an : Option Addr) (cdv ct : Value) (us ws : List Value), us.length = n → ws.length = ks.length → bindArgs (PySem.W.fnOf x qual params body scope .none kV doc pm an cdv ct) ⟨us, ks.zip ws⟩ = pure (ps.zip (gB rv us ws))) :
    KBn K fd ps n ks (gB rv) (gB rv) := by
  obtain ⟨oc, od, dV, kV, doc, pm, an, cdv, ct, osl, rfl, lk, hcd, hD, hK⟩ := F.ex
  rcases hD with ⟨_, rfl⟩ | ⟨e, _⟩
  · exact ⟨fun s us ws _ l1 l2 => .of_eq (h kV doc pm an cdv ct us ws l1 l2), fun r s => Vals.gB r s⟩
  · exact absurd rfl e
section
variable {X : Cx} {pins : List (Addr × Obj)} {σ : L2.St} {H : Hp} {s : Shared} {C fI : Addr} {k n : Nat} {fd : FuncData} {ps ks : List Str} {tp : List (Str × Fl)} {rv : Bool}
theorem xo_ext {a C d b : Addr} : xo a C d ≠ .own b := fun z => by
  have z' : HO.ext _ = HO.own b := z
  cases z'
/-- the exception stands: as a value from here on -/
theorem recast {a d : Addr} {fs : List (Str × V)} (I : Inv X pins σ (upd (upd H d (exd d fs)) a (exo a C (some d))) s) (hd : H d = none) (ha : H a = none) (hn : d ≠ a) : Inv X pins σ (upd (upd H d (.xd fs)) a (xo a C d)) s := by
  obtain ⟨t1, he⟩ := exo_at I.hok upd_same
  obtain ⟨mA, hns, rel⟩ := exd_at (fs := fs) (dx := d) I.hok (by rw [upd_ne hn, upd_same])
  have key : ∀ b o, b ≠ a → b ≠ d → (upd (upd H d (exd d fs)) a (exo a C (some d)) b = some o ↔ upd (upd H d (.xd fs)) a (xo a C d) b = some o) := fun b o h1 h2 => by rw [upd_ne h1, upd_ne h2, upd_ne h1, upd_ne h2]
  have nx : ∀ {b : Addr} {o : HO}, upd (upd H d (exd d fs)) a (exo a C (some d)) b = some o → o ≠ exo a C (some d) → o ≠ exd d fs → b ≠ a ∧ b ≠ d := fun {b o} h h1 h2 => by
    refine ⟨fun z => ?_, fun z => ?_⟩
    · rw [z, upd_same] at h; exact h1 (Option.some.inj h).symm
    · rw [z, upd_ne hn, upd_same] at h; exact h2 (Option.some.inj h).symm
  obtain ⟨hp, g, dr, tk, os⟩ := s
  refine I.un (t' := tk) (h' := hp) ⟨fun b o q _ _ _ => q, fun b o q _ _ _ => ⟨o.slots, q⟩, fun b o q n _ => ?_, fun b o q _ => ⟨o, q⟩, fun b xs q => ?_, fun b o v q => ?_, fun b ps q => ⟨#[], ?_⟩⟩ fun b o q => ?_
  · have h1 : b ≠ a := fun z => by rw [z, upd_same] at n; cases n
    have h2 : b ≠ d := fun z => by rw [z, upd_ne hn, upd_same] at n; cases n
    rw [upd_ne h1, upd_ne h2] at n ⊢
    exact n
  · obtain ⟨h1, h2⟩ := nx q exo_tup.symm exd_tup.symm
    exact (key _ _ h1 h2).mp q
  · have h3 : exd d fs ≠ .frz o v := fun z => by
      have z' : HO.ext _ = HO.frz o v := z
      cases z'
    obtain ⟨h1, h2⟩ := nx q exo_frz.symm h3.symm
    exact (key _ _ h1 h2).mp q
  · have h3 : exd d fs ≠ .tbl ps := fun z => by
      have z' : HO.ext _ = HO.tbl ps := z
      cases z'
    obtain ⟨h1, h2⟩ := nx q exo_tbl.symm h3.symm
    have := (key _ _ h1 h2).mp q
    simpa using this
  · by_cases h1 : b = a
    · subst h1
      rw [upd_same] at q
      cases q
      exact ⟨⟨_, _, he, rfl, rfl, rfl⟩, ⟨_, he⟩, fun _ _ ⟨o, vs, e1, e2⟩ k => ⟨o, vs, k _ e1, e2⟩⟩
    · rw [upd_ne h1] at q
      by_cases h2 : b = d
      · subst h2
        rw [upd_same] at q
        cases q
        exact ⟨mA, hns, rel⟩
      · rw [upd_ne h2] at q
        have q0 : upd (upd H d (exd d fs)) a (exo a C (some d)) b = some o := by rw [upd_ne h1, upd_ne h2]; exact q
        refine (I.hok b o q0).stay (fun _ _ _ z => z) (fun c hc => ?_) fun c xs hc => ?_
        · obtain ⟨h3, h4⟩ := nx hc exo_own.symm exd_own.symm
          exact (key _ _ h3 h4).mp hc
        · obtain ⟨h3, h4⟩ := nx hc exo_tup.symm exd_tup.symm
          exact (key _ _ h3 h4).mp hc
theorem run_mkX {CX : CXT} {Q : VK} {us ws : List Value} {vs zs : List V} (T : ExG X.K C) (iC : PySem.W.findIn X.K (.ref C) "__init__" = some (some (.ref fI))) (tI : PySem.W.typeIn X.K (.ref fI) = some (.type "function"))
    (F1 : FnOk X.prog X.w X.K X.mg X.base CX k fI fd ps (spI C n tp)) (hr : Room (k + 1) X.A) (hb : KBn X.K fd ps (vs.length + 1) ks (gB rv) (gB rv)) (hx : Passes CX X (fun _ _ _ => False))
    (I : Inv X pins σ H s) (r : Vals vs us) (rz : Vals zs ws) (l2 : zs.length = ks.length) (hl : vs.length ≤ 1000) (hn : (gB rv vs zs).length = n)
    (h : ∃ fs, tpV tp (gB rv vs zs) = some fs ∧ ∀ a d, H a = none → H d = none → d ≠ a → Q (.ref a) (upd (upd H d (.xd fs)) a (xo a C d))) :
    wpAny (model X.prog X.w) X.A (call (.ref C) us (ks.zip ws)) (EP X pins σ Q) X.xe s := by
  obtain ⟨B, newId, initId, bmB, FB, SF, q0, ov⟩ := T.base
  obtain ⟨nm, N, qn, bs, bm, hdct, sn, sub, ab, col, dd, k0, k1, k2, k3, k5, hC, hT⟩ := PySem.W.excInit_of I.kIn q0
  obtain ⟨fs, hfs, hq0⟩ := h
  obtain ⟨hp, g, dr, tk, os⟩ := s
  have hsz : hp.objs.size ≤ hp.objs.size + 1 := Nat.le_succ _
  have hn0 : H (hp.objs.size + 1) = none := I.hok.fresh hsz
  have kk : ∀ b o, hp.get? b = some o → ((hp.push (PySem.W.kdv_tup us)).push (PySem.HandSPX.excO C hp.objs.size)).get? b = some o := fun b o e => Heap.get?_push_of_some _ (Heap.get?_push_of_some _ e)
  have hget : ((hp.push (PySem.W.kdv_tup us)).push (PySem.HandSPX.excO C hp.objs.size)).get? (hp.objs.size + 1) = some (PySem.HandSPX.excO C hp.objs.size) := by heap_get
  have I2 : Inv X pins σ (upd H (hp.objs.size + 1) (exo (hp.objs.size + 1) C none)) ⟨(hp.push (PySem.W.kdv_tup us)).push (PySem.HandSPX.excO C hp.objs.size), g, dr, tk, os⟩ :=
    I.laid (t' := tk) (a := hp.objs.size + 1) (o := exo (hp.objs.size + 1) C none) (h' := (hp.push (PySem.W.kdv_tup us)).push (PySem.HandSPX.excO C hp.objs.size)) kk hsz (exo_ok hget)
  have r1 : Vals (V.ref (hp.objs.size + 1) :: vs) (Value.ref (hp.objs.size + 1) :: us) := .cons rfl r
  have r2 := hb.rel r1 rz
  have n1 : (Value.ref (hp.objs.size + 1) :: us).length = vs.length + 1 := by rw [List.length_cons, ← r.length]
  have hus : us.length ≤ sizeLine := by
    rw [← Paired.length r, sizeLine_eq]
    omega
  have hq : spI C n tp (gB rv (V.ref (hp.objs.size + 1) :: vs) zs) (upd H (hp.objs.size + 1) (exo (hp.objs.size + 1) C none)) (fun v H2 => v = .non ∧ ∃ d, H d = none ∧ d ≠ hp.objs.size + 1 ∧ H2 = upd (upd H d (exd d fs)) (hp.objs.size + 1) (exo (hp.objs.size + 1) C (some d))) (fun _ _ _ => False) := by
    refine ⟨hp.objs.size + 1, gB rv vs zs, fs, by unfold gB; rw [List.cons_append], hn, upd_same, hfs, fun d hd hne => ⟨rfl, d, by rw [upd_ne hne] at hd; exact hd, hne, ?_⟩⟩
    funext b
    by_cases h1 : b = hp.objs.size + 1
    · rw [h1, upd_same, upd_same]
    · rw [upd_ne h1, upd_ne h1]
      by_cases h2 : b = d
      · rw [h2, upd_same, upd_same]
      · rw [upd_ne h2, upd_ne h2, upd_ne h1]
  refine wpAny_call (PySem.SimX.callK FB hT hC (PySem.W.looks_findIn I.kIn iC) (fun self => PySem.W.bind_fn I.kIn self tI) hus (codeAny_mono (F1.run _ X.stack _ _ ⟨Value.ref (hp.objs.size + 1) :: us, ks.zip ws⟩ (gB rv (Value.ref (hp.objs.size + 1) :: us) ws) _ _ (fun _ _ _ => False) (hr.make C us (ks.zip ws))
    (I2.env0.make C us (ks.zip ws)) (hb.to _ (Value.ref (hp.objs.size + 1) :: us) ws I2.kIn n1 (rz.length.symm.trans l2)) r2 hq) fun r s' hq' => ?_))
  cases r with
  | error e => exact hx pins σ _ _ e s' I2 hq'
  | ok fl =>
    cases fl with
    | ret u =>
      obtain ⟨v, H', I3, rv', ev, d, hd, hne, e3⟩ := I2.after hq'
      subst ev
      subst e3
      exact ⟨rv', ⟨V.ref (hp.objs.size + 1), _, recast I3 hd hn0 hne, rfl, hq0 _ d hn0 hd hne⟩⟩
    | next => exact False.elim hq'
    | brk => exact False.elim hq'
    | cont => exact False.elim hq'
end
end Sim

set_option Elab.async false
set_option linter.all false
set_option maxRecDepth 100000
set_option maxHeartbeats 4000000
namespace Sim
open PySem PySem.Spec PyProof.Rows L2
/-- an exception class of the program, by its name: n parameters, the fields tp, the ways it is called -/
structure MkX (P : Program) (w : World) (K : Frag) (mg : Str → Option Value) (base : Heap) (x : Str) (n : Nat) (tp : List (Str × Fl)) (modes : List (Nat × List Str × Bool)) : Prop where
  T : ExG K (He.ga K x)
  init : ∃ (fI : Addr) (fd : FuncData) (ps : List Str), PySem.W.findIn K (.ref (He.ga K x)) "__init__" = some (some (.ref fI)) ∧ PySem.W.typeIn K (.ref fI) = some (.type "function") ∧ FnOk P w K mg base (CXp P w) 1 fI fd ps (spI (He.ga K x) n tp) ∧
    ∀ md ∈ modes, KBn K fd ps (md.1 + 1) md.2.1 (gB md.2.2) (gB md.2.2)
  glo : mg x = some (.ref (He.ga K x))
  cls : ∀ fs : List (Str × D), fs.map (·.1) = tp.map (·.1) → ExcC K x fs
  ty : PySem.W.typeIn K (.ref (He.ga K x)) = some (.type "type")
def tMkX (C : Addr) (tp : List (Str × Fl)) (n0 nk n : Nat) (rv : Bool) (tA tK : TA) : TE := fun σ H Q => tA σ H fun vs H1 => tK σ H1 fun zs H2 => vs.length = n0 ∧ zs.length = nk ∧ (gB rv vs zs).length = n ∧ ∃ fs, tpV tp (gB rv vs zs) = some fs ∧ ∀ a d, H2 a = none → H2 d = none → d ≠ a → Q (.ref a) (upd (upd H2 d (.xd fs)) a (xo a C d))
section
variable {X : Cx} {W : WX} {x : Str} {n n0 k : Nat} {tp : List (Str × Fl)} {modes : List (Nat × List Str × Bool)} {ks : List Str} {rv : Bool} {p pos : Pos} {e : Expr} {es : List Expr} {kws : List Keyword} {tA tK : TA}
theorem no_pass (tk : Takes X W) : Passes (CXp X.prog X.w) X (fun _ _ _ => False) := passes_call (W := W) tk fun _ _ _ _ h => h.elim
theorem pe_mkX (M : MkX X.prog X.w X.K X.mg X.base x n tp modes) (hmd : (n0, [], false) ∈ modes) (h0 : n0 ≤ 1000) (hr : Room (k + 2) X.A) (tk : Takes X W) (ha : PA X (e :: es) tA) (hg : Gl X x) (hdb : (x == ("__debug__" : Str)) = false := by decide)
    (he : starEach (e :: es) X.env = (false, eval e X.env) :: starEach es X.env := by rfl) (hpl : (backTo pos (starEach es X.env)).any (·.1) = false := by rfl) :
    PE X (.Call (.Name x p) (e :: es) [] pos) (tMkX (He.ga X.K x) tp n0 0 n false tA tNil) := by
  obtain ⟨fI, fd, ps, iC, tI, F, B⟩ := M.init
  refine ⟨fun pins s σ H Q I h => ?_⟩
  refine wpAny_Call_Name_kw (ld_glob I hg M.glo ?_ hdb)
  refine PySem.W.callWith_K (h₀ := X.base) I.ok.mod.kin M.T.kC (thn (ha.run pos pins s σ H _ I h) fun us s1 ⟨vs, H1, I1, r, l1, l2, l3, q⟩ => ⟨I1.kIn, ?_⟩) he hpl
  have b := B _ hmd
  simp only at b
  rw [← l1] at b
  exact run_mkX (ks := []) (ws := []) (zs := []) M.T iC tI F (hr.mono (by omega)) b (no_pass tk) I1 r .nil rfl (by rw [l1]; exact h0) l3 q
theorem pe_mkX0 (M : MkX X.prog X.w X.K X.mg X.base x n tp modes) (hmd : (0, [], false) ∈ modes) (hr : Room (k + 2) X.A) (tk : Takes X W) (hg : Gl X x) (hdb : (x == ("__debug__" : Str)) = false := by decide) :
    PE X (.Call (.Name x p) [] [] pos) (tMkX (He.ga X.K x) tp 0 0 n false tNil tNil) := by
  obtain ⟨fI, fd, ps, iC, tI, F, B⟩ := M.init
  refine ⟨fun pins s σ H Q I h => ?_⟩
  refine wpAny_Call_Name_kw (ld_glob I hg M.glo ?_ hdb)
  obtain ⟨l1, l2, l3, q⟩ := h
  exact PySem.W.callWith_K0 I.kIn M.T.kC (run_mkX (ks := []) (us := []) (vs := []) (ws := []) (zs := []) M.T iC tI F (hr.mono (by omega)) (B _ hmd) (no_pass tk) I .nil .nil rfl (by simp) l3 q)
theorem pe_mkXK (M : MkX X.prog X.w X.K X.mg X.base x n tp modes) (hmd : (n0, ks, rv) ∈ modes) (h0 : n0 ≤ 1000) (hr : Room (k + 2) X.A) (tk : Takes X W) (ha : PA X (e :: es) tA) (hkw : PK X kws tK) (hg : Gl X x) (hdb : (x == ("__debug__" : Str)) = false := by decide)
    (hall : (backToKw pos (keywordEach kws X.env)).all (·.1.isSome) = true := by rfl) (hks : (backToKw pos (keywordEach kws X.env)).filterMap (·.1) = ks := by rfl)
    (he : starEach (e :: es) X.env = (false, eval e X.env) :: starEach es X.env := by rfl) (hpl : ((backTo pos (starEach (e :: es) X.env)).any (·.1) || (backToKw pos (keywordEach kws X.env)).any (·.1.isNone)) = false := by rfl) :
    PE X (.Call (.Name x p) (e :: es) kws pos) (tMkX (He.ga X.K x) tp n0 ks.length n rv tA tK) := by
  obtain ⟨fI, fd, ps, iC, tI, F, B⟩ := M.init
  refine ⟨fun pins s σ H Q I h => ?_⟩
  refine wpAny_Call_Name_kw (ld_glob I hg M.glo ?_ hdb)
  refine PySem.W.callWith_KW (h₀ := X.base) I.ok.mod.kin M.T.kC hall (thn (ha.run pos pins s σ H _ I h) fun us s1 ⟨vs, H1, I1, r, q1⟩ => ?_) hpl he
  refine thn (hkw.run pos pins s1 σ H1 _ I1 q1) fun ws s2 ⟨zs, H2, I2, rz, l1, l2, l3, q⟩ => ⟨I2.kIn, ?_⟩
  rw [hks]
  have b := B _ hmd
  simp only at b
  rw [← l1] at b
  exact run_mkX M.T iC tI F (hr.mono (by omega)) b (no_pass tk) I2 r rz l2 (by rw [l1]; exact h0) l3 q
theorem pe_mkXK0 (M : MkX X.prog X.w X.K X.mg X.base x n tp modes) (hmd : (0, ks, rv) ∈ modes) (hr : Room (k + 2) X.A) (tk : Takes X W) (hkw : PK X kws tK) (hg : Gl X x) (hdb : (x == ("__debug__" : Str)) = false := by decide)
    (hall : (backToKw pos (keywordEach kws X.env)).all (·.1.isSome) = true := by rfl) (hks : (backToKw pos (keywordEach kws X.env)).filterMap (·.1) = ks := by rfl)
    (hpl : ((backTo pos (starEach [] X.env)).any (·.1) || (backToKw pos (keywordEach kws X.env)).any (·.1.isNone)) = false := by rfl) :
    PE X (.Call (.Name x p) [] kws pos) (tMkX (He.ga X.K x) tp 0 ks.length n rv tNil tK) := by
  obtain ⟨fI, fd, ps, iC, tI, F, B⟩ := M.init
  refine ⟨fun pins s σ H Q I h => ?_⟩
  refine wpAny_Call_Name_kw (ld_glob I hg M.glo ?_ hdb)
  refine PySem.W.callWith_KW0 (h₀ := X.base) I.ok.mod.kin M.T.kC hall ?_ hpl
  refine thn (hkw.run pos pins s σ H _ I h) fun ws s2 ⟨zs, H2, I2, rz, l1, l2, l3, q⟩ => ⟨I2.kIn, ?_⟩
  rw [hks]
  exact run_mkX (us := []) (vs := []) M.T iC tI F (hr.mono (by omega)) (B _ hmd) (no_pass tk) I2 .nil rz l2 (by simp) l3 q
/-- keywords' values -/
def SK (X : Cx) (W : WX) (kws : List Keyword) (m : Am) : Prop := PK X kws (TAm X.K m W)
theorem sk_nil : SK X W [] aNil := ⟨fun pos pins s σV H Q I q => by
  obtain ⟨w, σ, rfl, ok, sl, p⟩ := q
  exact wpAny_evalAll_nil ⟨[], w.H, I, .nil, PR.ret (R := Reps X.K) ok p .nil⟩⟩
theorem sk_cons {nm : Option Str} {kpos : Pos} {m : Em} {r : Am} (ha : SE X W e m) (hr : SK X W kws r) : SK X W (⟨nm, e, kpos⟩ :: kws) (aCons m r) := by
  have h := pk_cons (nm := nm) (kpos := kpos) ha hr
  refine ⟨fun pos pins s σV H Q I q => h.run pos pins s σV H Q I ?_⟩
  obtain ⟨w, σ, rfl, ok, sl, p⟩ := q
  refine ⟨w, σ, rfl, ok, sl, PR.bind ok p fun d st x mu H1 e1 s1 ok1 r1 p1 => ?_⟩
  refine ⟨⟨mu, st, H1, w.op⟩, σ, rfl, ok1, sl.step s1 ok, PR.bind ok1 p1 fun ds st2 xs mu2 H2 e2 s2 ok2 r2 p2 => ?_⟩
  exact PR.ret (R := Reps X.K) ok2 p2 (.cons (r1.step s2 ok1) r2)
def mkD (x : Str) (tp : List (Str × Fl)) (n0 nk n : Nat) (rv : Bool) (as bs : List D) (st : Sto) : Res D := if as.length = n0 ∧ bs.length = nk ∧ (gB rv as bs).length = n then (match tpD tp (gB rv as bs) with
  | some fs => .ok (.ins x fs) st
  | none => .bad) else .bad
def eMk (x : Str) (tp : List (Str × Fl)) (n0 nk n : Nat) (rv : Bool) (ma mk : Am) : Em := fun σ st => (ma σ st).bind fun as st1 => (mk σ st1).bind fun bs st2 => mkD x tp n0 nk n rv as bs st2
theorem Reps.rev {K : Frag} {w : Wd} {rv : Bool} {vs us : List V} {as bs : List D} (r : Reps K w vs as) (s : Reps K w us bs) : Reps K w (gB rv vs us) (gB rv as bs) := by
  unfold gB
  refine r.append ?_
  cases rv with
  | false => exact s
  | true => exact s.reverse
theorem t_mkX (hc : ∀ fs : List (Str × D), fs.map (·.1) = tp.map (·.1) → ExcC X.K x fs) {ma mk : Am} {nk : Nat} {σV : L2.St} {H : Hp} {Q : VK} (q : TEm X.K (eMk x tp n0 nk n rv ma mk) W σV H Q) : tMkX (He.ga X.K x) tp n0 nk n rv (TAm X.K ma W) (TAm X.K mk W) σV H Q := by
  obtain ⟨w, σ, rfl, ok, sl, p⟩ := q
  refine ⟨w, σ, rfl, ok, sl, PR.bind ok p fun as st vs mu H1 e1 s1 ok1 r1 p1 => ?_⟩
  refine ⟨⟨mu, st, H1, w.op⟩, σ, rfl, ok1, sl.step s1 ok, PR.bind ok1 p1 fun bs st2 zs mu2 H2 e2 s2 ok2 r2 p2 => ?_⟩
  unfold mkD at p2
  by_cases hl : as.length = n0 ∧ bs.length = nk ∧ (gB rv as bs).length = n
  · rw [if_pos hl] at p2
    have rr : Reps X.K ⟨mu2, st2, H2, w.op⟩ (gB rv vs zs) (gB rv as bs) := Reps.rev (r1.step s2 ok1) r2
    cases e3 : tpD tp (gB rv as bs) with
    | none => simp only [e3] at p2; exact p2.elim
    | some fs =>
      simp only [e3] at p2
      obtain ⟨fv, h1, h2, h3⟩ := tpD_rep rr e3
      refine ⟨by rw [r1.length]; exact hl.1, by rw [r2.length]; exact hl.2.1, by rw [rr.length]; exact hl.2.2, fv, h1, fun a d ha hd hn => ?_⟩
      have oA := put_ok (o := .xd fv) ok2 hd
      have sA := put_step (w := ⟨mu2, st2, H2, w.op⟩) (o := .xd fv) hd
      have ha' : (Wd.put ⟨mu2, st2, H2, w.op⟩ d (.xd fv)).H a = none := by
        show upd H2 d (.xd fv) a = none
        rw [upd_ne (Ne.symm hn)]
        exact ha
      have oB := put_ok (o := xo a (He.ga X.K x) d) oA ha'
      have sB := put_step (w := Wd.put ⟨mu2, st2, H2, w.op⟩ d (.xd fv)) (o := xo a (He.ga X.K x) d) ha'
      have hdA : (Wd.put ⟨mu2, st2, H2, w.op⟩ d (.xd fv)).H d ≠ none := by
        show upd H2 d (.xd fv) d ≠ none
        rw [upd_same]; simp
      exact p2 (.ref a) mu2 _ (sA.trans sB ok2) oB (.exo (dx := d) upd_same (by show upd (upd H2 d (.xd fv)) a _ d = _; rw [upd_ne hn, upd_same]) (put_live oA ha') (sB.live oA hdA (put_live ok2 hd)) (oA.notOp ha') (ok2.notOp hd) (h2.step (sA.trans sB ok2) ok2) (hc fs h3))
  · rw [if_neg hl] at p2
    exact p2.elim
theorem se_mkX {ma : Am} (M : MkX X.prog X.w X.K X.mg X.base x n tp modes) (hr : Room (k + 2) X.A) (tk : Takes X W) (ha : SA X W (e :: es) ma) (hmd : (n0, [], false) ∈ modes := by simp) (h0 : n0 ≤ 1000 := by decide) (hg : Gl X x := by rfl) (hdb : (x == ("__debug__" : Str)) = false := by decide)
    (he : starEach (e :: es) X.env = (false, eval e X.env) :: starEach es X.env := by rfl) (hpl : (backTo pos (starEach es X.env)).any (·.1) = false := by rfl) : SE X W (.Call (.Name x p) (e :: es) [] pos) (eMk x tp n0 0 n false ma aNil) :=
  pe_imp (pe_mkX (tA := TAm X.K ma W) M hmd h0 hr tk ha hg hdb he hpl) fun σV H Q q => by
    have z := t_mkX M.cls q
    obtain ⟨w, σ, h1, ok, sl, p⟩ := z
    refine ⟨w, σ, h1, ok, sl, p.mono (fun b H1 q1 => ?_) fun _ _ _ h => h⟩
    obtain ⟨w1, σ1, rfl, ok1, sl1, p1⟩ := q1
    exact PR.ret (R := Reps X.K) ok1 p1 .nil
theorem se_mkX0 (M : MkX X.prog X.w X.K X.mg X.base x n tp modes) (hr : Room (k + 2) X.A) (tk : Takes X W) (hmd : (0, [], false) ∈ modes := by simp) (hg : Gl X x := by rfl) (hdb : (x == ("__debug__" : Str)) = false := by decide) : SE X W (.Call (.Name x p) [] [] pos) (eMk x tp 0 0 n false aNil aNil) :=
  pe_imp (pe_mkX0 M hmd hr tk hg hdb) fun σV H Q q => by
    have z := t_mkX M.cls q
    obtain ⟨w, σ, h1, ok, sl, p⟩ := z
    have z2 := PR.ret (R := Reps X.K) ok p .nil
    obtain ⟨w1, σ1, h3, ok1, sl1, p1⟩ := z2
    have z3 := PR.ret (R := Reps X.K) ok1 p1 .nil
    rw [h3, h1] at z3
    exact z3
theorem se_mkXK {ma mk : Am} (M : MkX X.prog X.w X.K X.mg X.base x n tp modes) (hr : Room (k + 2) X.A) (tk : Takes X W) (ha : SA X W (e :: es) ma) (hk : SK X W kws mk) (hmd : (n0, ks, rv) ∈ modes := by simp) (h0 : n0 ≤ 1000 := by decide) (hg : Gl X x := by rfl) (hdb : (x == ("__debug__" : Str)) = false := by decide)
    (hall : (backToKw pos (keywordEach kws X.env)).all (·.1.isSome) = true := by rfl) (hks : (backToKw pos (keywordEach kws X.env)).filterMap (·.1) = ks := by rfl)
    (he : starEach (e :: es) X.env = (false, eval e X.env) :: starEach es X.env := by rfl) (hpl : ((backTo pos (starEach (e :: es) X.env)).any (·.1) || (backToKw pos (keywordEach kws X.env)).any (·.1.isNone)) = false := by rfl) :
    SE X W (.Call (.Name x p) (e :: es) kws pos) (eMk x tp n0 ks.length n rv ma mk) :=
  pe_imp (pe_mkXK M hmd h0 hr tk ha hk hg hdb hall hks he hpl) fun σV H Q q => t_mkX M.cls q
theorem se_mkXK0 {mk : Am} (M : MkX X.prog X.w X.K X.mg X.base x n tp modes) (hr : Room (k + 2) X.A) (tk : Takes X W) (hk : SK X W kws mk) (hmd : (0, ks, rv) ∈ modes := by simp) (hg : Gl X x := by rfl) (hdb : (x == ("__debug__" : Str)) = false := by decide)
    (hall : (backToKw pos (keywordEach kws X.env)).all (·.1.isSome) = true := by rfl) (hks : (backToKw pos (keywordEach kws X.env)).filterMap (·.1) = ks := by rfl)
    (hpl : ((backTo pos (starEach [] X.env)).any (·.1) || (backToKw pos (keywordEach kws X.env)).any (·.1.isNone)) = false := by rfl) :
    SE X W (.Call (.Name x p) [] kws pos) (eMk x tp 0 ks.length n rv aNil mk) :=
  pe_imp (pe_mkXK0 M hmd hr tk hk hg hdb hall hks hpl) fun σV H Q q => by
    have z := t_mkX M.cls q
    obtain ⟨w, σ, h1, ok, sl, p⟩ := z
    have z2 := PR.ret (R := Reps X.K) ok p .nil
    rw [h1] at z2
    exact z2
/-! ### fields -/
def attD (f : Str) (d : D) (st : Sto) : Res D := match d with
  | .ins C fs => (match fs.lookup f with
    | some v => .ok v st
    | none => .bad)
  | .ref n => (match st[n]? with
    | some (some (.ins C fs)) => (match fs.lookup f with
      | some v => .ok v st
      | none => .bad)
    | _ => .bad)
  | _ => .bad
theorem se_att {f : Str} {m : Em} (he : SE X W e m) (hb : attributeBase e f X.env (eval e X.env) = eval e X.env := by rfl) : SE X W (.Attribute e f pos) (eUn (attD f) m) := by
  refine ⟨fun pins s σV H Q I q => ?_⟩
  refine attr_of hb (thn (he.run pins s σV H (fun x H1 => ∃ w d, w.H = H1 ∧ Ok X.K w ∧ Rep X.K w x d ∧ PR X.K (Rep X.K) w (attD f d w.st) Q (xk W σV)) I ?_) fun u s1 ⟨x, H1, I1, rx, w, d, hH, ok, r, p⟩ => ?_)
  · obtain ⟨w, σ, rfl, ok, sl, p⟩ := q
    exact ⟨w, σ, rfl, ok, sl, PR.bind ok p fun d st x mu H1 e1 s1 ok1 r1 p1 => ⟨⟨mu, st, H1, w.op⟩, d, rfl, ok1, r1, p1⟩⟩
  · subst hH
    have pl : ∀ {a dx : Addr} {C : Str} {fv : List (Str × V)} {fs : List (Str × D)}, x = .ref a → w.H a = some (.ins (He.ga X.K C) dx fv) → RepF X.K w fv fs → InsC X.K C fs → PR X.K (Rep X.K) w (match fs.lookup f with | some v => .ok v w.st | none => .bad) Q (xk W σV) →
        wpAny (model X.prog X.w) X.A (getAttr u f true) (EP X pins σV Q) X.xe s1 := fun {a dx C fv fs} ex h hs hc p => by
      subst ex
      obtain rfl : u = Value.ref a := rx
      cases e : fs.lookup f with
      | none => rw [e] at p; exact p.elim
      | some d2 =>
        rw [e] at p
        obtain ⟨v, hv, rv⟩ := hs.lookup e
        exact getattr_ok I1 h hc.cls (hc.no f (by rw [e]; simp)) hv fun u' s2 I2 ru => ⟨v, w.H, I2, ru, PR.ret (R := Rep X.K) ok p rv⟩
    cases r with
    | ins h hl ho hs hc => exact pl rfl h hs hc p
    | @exo a dx C fv fs h h2 hl hl2 ho ho2 hs hc =>
      obtain rfl : u = Value.ref a := rx
      have p : PR X.K (Rep X.K) w (match fs.lookup f with | some v => .ok v w.st | none => .bad) Q (xk W σV) := p
      cases e : fs.lookup f with
      | none => rw [e] at p; exact p.elim
      | some d2 =>
        rw [e] at p
        obtain ⟨v, hv, rv⟩ := hs.lookup e
        have hx : ObjOk X.prog X.w w.H s1.heap dx (.xd fv) := I1.hok dx _ h2
        obtain ⟨mA, hns, hrl⟩ := hx
        obtain ⟨od, hod, hlk⟩ := lookIn_ns hns
        have z : ObjOk X.prog X.w w.H s1.heap a (xo a (He.ga X.K C) dx) := I1.hok a _ h
        obtain ⟨⟨o, vs, e1, e2, e3, e4⟩, _⟩ := z
        obtain ⟨u, hu, ru⟩ := RelO.some_of (v := v) (o := mA f) (by rw [← hv]; exact hrl f)
        have J : PySem.W.InstAt s1.heap a o (He.ga X.K C) (some od) := ⟨e1, e2, by unfold PySem.W.notCls; rw [e4] <;> rfl, by rw [e3]; exact hod⟩
        exact HandSPX.exc_get I1.kIn J hc.ga hc.gg hc.exC (PySem.W.findObj_own hc.hdC (hc.no f (by rw [e]; simp)) rfl (by rw [hlk, hu])) (handed_of ru) ⟨v, w.H, I1.tok _, ru, PR.ret (R := Rep X.K) ok p rv⟩
    | @ref a n h =>
      unfold attD at p
      cases e : w.st[n]? with
      | none => simp only [e] at p; exact p.elim
      | some o =>
        cases o with
        | none => simp only [e] at p; exact p.elim
        | some o =>
          have ro := ok.obj n a o h e
          cases o with
          | lst ds => simp only [e] at p; exact p.elim
          | ins C fs =>
            simp only [e] at p
            obtain ⟨dx, fv, h1, h2, hc⟩ := ro
            exact pl rfl h1 h2 hc p
    | non => exact p.elim
    | bl b => exact p.elim
    | int b => exact p.elim
    | str b => exact p.elim
    | ty b => exact p.elim
    | tup h h2 h3 => exact p.elim
    | ktup h h2 => exact p.elim
    | lst h h2 h3 h4 => exact p.elim
    | scr h h2 h3 h4 => exact p.elim
    | kscr h h2 h3 => exact p.elim
end
end Sim

set_option Elab.async false
set_option linter.all false
set_option maxRecDepth 100000
set_option maxHeartbeats 4000000
/-! facts by names, of our own -/
namespace Sim
open PySem PySem.Spec PyProof.Rows L2
theorem Bs.ok (b : Bs) : ∃ (B initId : String), ExcBaseFacts B b.new initId b.bm ∧ StoreFacts B b.bm "object.__setattr__" "object" := by
  cases b with
  | ve => exact ⟨_, _, PySem.F.excBase_ValueError, PySem.F.store_ValueError⟩
  | ae => exact ⟨_, _, PySem.F.excBase_ArithmeticError, PySem.F.store_ArithmeticError⟩
  | le => exact ⟨_, _, PySem.F.excBase_LookupError, PySem.F.store_LookupError⟩
  | ie => exact ⟨_, _, PySem.F.excBase_IndexError, PySem.F.store_IndexError⟩
structure ExF (K : Frag) (x : Str) (ns : List Str) : Prop where
  T : ExG K (He.ga K x)
  iC : PySem.W.findIn K (.ref (He.ga K x)) "__init__" = some (some (.ref (He.ma K (He.ga K x) "__init__")))
  tI : PySem.W.typeIn K (.ref (He.ma K (He.ga K x) "__init__")) = some (.type "function")
  ty : PySem.W.typeIn K (.ref (He.ga K x)) = some (.type "type")
  no : ∀ f ∈ ns, PySem.W.findIn K (.ref (He.ga K x)) f = some none
  cls : ∀ fs : List (Str × D), (∀ f ∈ fs.map (·.1), f ∈ ns) → ExcC K x fs
theorem mem_of_lookup' {f : Str} {v : D} : ∀ {fs : List (Str × D)}, fs.lookup f = some v → f ∈ fs.map (·.1)
  | [], h => by cases h
  | (g, y) :: r, h => by
    rw [List.lookup_cons] at h
    cases q : f == g with
    | true => rw [eq_of_beq q]; exact List.mem_cons_self
    | false => rw [q] at h; exact List.mem_cons_of_mem _ (mem_of_lookup' h)
theorem gtIn {K : Frag} : PySem.W.specialIn K (.builtin "object.__class__") "__get__" = some (some (.builtin "getset_descriptor.__get__")) := by kernel_rfl
theorem tkIn {K : Frag} : PySem.W.takesIn K (.builtin "object.__class__") = some true := by kernel_rfl
theorem exB_ok {K : Frag} {x : Str} {b : Bs} {ns : List Str} (h : exB K (He.ga K x) b ns = true) : ExF K x ns := by
  unfold exB at h
  simp only [Bool.and_eq_true, decide_eq_true_eq, List.all_eq_true] at h
  obtain ⟨h1, h2, h3, h4, h5, h6, h7, h8, h9, h10, h11, h12, h13, h15, h14⟩ := h
  obtain ⟨B, i, F, S⟩ := b.ok
  refine ⟨⟨⟨B, _, i, _, F, S, h1, h2⟩, h3, h6, h4⟩, h12, h13, h15, h14, fun fs hf => ⟨h5, h7, h8, h9, h3, h10, gtIn, tkIn, h11, fun f hl => ?_⟩⟩
  cases e : fs.lookup f with
  | none => exact absurd e hl
  | some v => exact h14 f (hf f (mem_of_lookup' e))
theorem incr_all {a : Nat} : ∀ {l : List Nat}, incr (a :: l) = true → ∀ b ∈ l, a < b
  | [], _, b, h => by cases h
  | c :: r, e, b, h => by
    have e : (decide (a < c) && incr (c :: r)) = true := e
    obtain ⟨h1, h2⟩ := Bool.and_eq_true_iff.mp e
    have h1 := of_decide_eq_true h1
    rcases List.mem_cons.mp h with h | h
    · rw [h]; exact h1
    · exact Nat.lt_trans h1 (incr_all h2 b h)
theorem incr_tail {a : Nat} {l : List Nat} (h : incr (a :: l) = true) : incr l = true := by
  cases l with
  | nil => rfl
  | cons b r => exact (Bool.and_eq_true_iff.mp (show (decide (a < b) && incr (b :: r)) = true from h)).2
theorem incr_inj {f : Str → Nat} : ∀ {l : List Str}, incr (l.map f) = true → ∀ a ∈ l, ∀ b ∈ l, f a = f b → a = b
  | [], _, a, ha, _, _, _ => by cases ha
  | c :: r, e, a, ha, b, hb, h => by
    have e : incr (f c :: r.map f) = true := e
    rcases List.mem_cons.mp ha with ha | ha <;> rcases List.mem_cons.mp hb with hb | hb
    · rw [ha, hb]
    · have := incr_all e (f b) (List.mem_map_of_mem hb)
      rw [ha] at h; omega
    · have := incr_all e (f a) (List.mem_map_of_mem ha)
      rw [hb] at h; omega
    · exact incr_inj (incr_tail e) a ha b hb h
def isO (ancO : Str → List Str) (leafs : List Str) (T : Str) : Tg → Option Bool
  | .c C => if C ∈ leafs then some (decide (T ∈ ancO C)) else none
  | _ => none
def isY (ancT : Str → List String) (leafs : List Str) (T : String) : Tg → Option Bool
  | .c C => if C ∈ leafs then some (decide (T ∈ ancT C)) else none
  | _ => none
section
variable {K : Frag} {ancO : Str → List Str} {ancT : Str → List String} {leafs owns : List Str}
theorem isTab_mro (h : isTabB K ancO ancT leafs owns = true) {C : Str} (hC : C ∈ leafs) : ∃ cd, PySem.W.clsIn K (He.ga K C) = some cd ∧ cd.mro = (ancO C).map (fun A => Value.ref (He.ga K A)) ++ (ancT C).map Value.type := by
  have z := of_decide_eq_true (List.all_eq_true.mp (Bool.and_eq_true_iff.mp h).1 C hC)
  cases e : PySem.W.clsIn K (He.ga K C) with
  | none => rw [e] at z; cases z
  | some cd => rw [e] at z; exact ⟨cd, rfl, Option.some.inj z⟩
theorem mro_sub {C : Str} {cd : ClassData} {v : Value} (h : PySem.W.clsIn K (He.ga K C) = some cd) (hn : cd.mro ≠ []) : PySem.W.subIn K (.ref (He.ga K C)) v = some (cd.mro.contains v) := by
  show PySem.W.mroIn K _ _ = _
  unfold PySem.W.mroIn
  rw [h, Option.bind_some, if_neg]
  intro z
  exact hn (List.isEmpty_iff.mp z)
theorem isO_ok (h : isTabB K ancO ancT leafs owns = true) (hs : ∀ C ∈ leafs, C ∈ ancO C ∧ ∀ A ∈ ancO C, A ∈ owns) {T : Str} (hT : T ∈ owns) (t : Tg) (b : Bool) (e : isO ancO leafs T t = some b) : PySem.W.kitOne K (t.val K) (.ref (He.ga K T)) = some b := by
  cases t with
  | b n => cases e
  | c C =>
    have e : (if C ∈ leafs then some (decide (T ∈ ancO C)) else none) = some b := e
    by_cases hC : C ∈ leafs
    · rw [if_pos hC] at e
      obtain ⟨cd, h1, h2⟩ := isTab_mro h hC
      obtain ⟨h3, h4⟩ := Bool.and_eq_true_iff.mp (Bool.and_eq_true_iff.mp h).2
      have inj := incr_inj h4
      have hT2 := List.all_eq_true.mp h3 T hT
      have hne : cd.mro ≠ [] := by
        rw [h2]
        intro z
        have z1 := (List.append_eq_nil_iff.mp z).1
        have z2 := (hs C hC).1
        rw [List.map_eq_nil_iff.mp z1] at z2
        cases z2
      have hc : cd.mro.contains (.ref (He.ga K T)) = decide (T ∈ ancO C) := by
        rw [h2]
        by_cases hm : T ∈ ancO C
        · rw [decide_eq_true hm]
          simp only [List.contains_eq_mem, decide_eq_true_eq]
          exact List.mem_append_left _ (List.mem_map_of_mem (f := fun A => Value.ref (He.ga K A)) hm)
        · rw [decide_eq_false hm]
          simp only [List.contains_eq_mem, decide_eq_false_iff_not]
          intro z
          rcases List.mem_append.mp z with z | z
          · obtain ⟨A, hA, hv⟩ := List.mem_map.mp z
            have q : He.ga K A = He.ga K T := Value.ref.inj hv
            rw [inj A ((hs C hC).2 A hA) T hT q] at hA
            exact hm hA
          · obtain ⟨A, hA, hv⟩ := List.mem_map.mp z
            cases hv
      show PySem.W.kitOne K (.ref (He.ga K C)) (.ref (He.ga K T)) = some b
      rw [← e]
      unfold PySem.W.kitOne
      by_cases q : (Value.ref (He.ga K C) == Value.ref (He.ga K T)) = true
      · rw [if_pos q]
        have q2 : He.ga K C = He.ga K T := Value.ref.inj (beq_iff_eq.mp q)
        have q3 := inj C ((hs C hC).2 C (hs C hC).1) T hT q2
        rw [← q3, decide_eq_true (hs C hC).1]
      · rw [if_neg q]
        unfold PySem.W.kitCls
        have q4 : ((PySem.W.clsIn K (He.ga K T)).isSome && PySem.W.typeIn K (.ref (He.ga K T)) == some (.type "type")) = true := by
          obtain ⟨a1, a2⟩ := Bool.and_eq_true_iff.mp hT2
          rw [a1, of_decide_eq_true a2]
          simp
        simp only [q4, if_true]
        rw [mro_sub h1 hne, hc]
    · rw [if_neg hC] at e; cases e
theorem isY_ok (h : isTabB K ancO ancT leafs owns = true) (hs : ∀ C ∈ leafs, C ∈ ancO C ∧ ∀ A ∈ ancO C, A ∈ owns) {T : String} (hT : PySem.W.kitMeta T = true) (t : Tg) (b : Bool) (e : isY ancT leafs T t = some b) : PySem.W.kitOne K (t.val K) (.type T) = some b := by
  cases t with
  | b n => cases e
  | c C =>
    have e : (if C ∈ leafs then some (decide (T ∈ ancT C)) else none) = some b := e
    by_cases hC : C ∈ leafs
    · rw [if_pos hC] at e
      obtain ⟨cd, h1, h2⟩ := isTab_mro h hC
      have hne : cd.mro ≠ [] := by
        rw [h2]
        intro z
        have z1 := (List.append_eq_nil_iff.mp z).1
        have z2 := (hs C hC).1
        rw [List.map_eq_nil_iff.mp z1] at z2
        cases z2
      have hc : cd.mro.contains (.type T) = decide (T ∈ ancT C) := by
        rw [h2]
        by_cases hm : T ∈ ancT C
        · rw [decide_eq_true hm]
          simp only [List.contains_eq_mem, decide_eq_true_eq]
          exact List.mem_append_right _ (List.mem_map_of_mem hm)
        · rw [decide_eq_false hm]
          simp only [List.contains_eq_mem, decide_eq_false_iff_not]
          intro z
          rcases List.mem_append.mp z with z | z
          · obtain ⟨A, hA, hv⟩ := List.mem_map.mp z
            cases hv
          · obtain ⟨A, hA, hv⟩ := List.mem_map.mp z
            rw [Value.type.inj hv] at hA
            exact hm hA
      show PySem.W.kitOne K (.ref (He.ga K C)) (.type T) = some b
      rw [← e]
      unfold PySem.W.kitOne
      have q : ¬ (Value.ref (He.ga K C) == Value.type T) = true := fun z => by
        have := beq_iff_eq.mp z
        cases this
      rw [if_neg q]
      unfold PySem.W.kitCls
      simp only [hT, if_true]
      rw [mro_sub h1 hne, hc]
    · rw [if_neg hC] at e; cases e
end
theorem SaysS.d {fa : List He.Fa} {fn : List He5.DefA} {xs : List (Frag → Bool)} {tf : List He.Defn} {h : Heap} {K : Frag} (c : SaysS fa fn xs tf h K) : He5.SaysA fa fn K := congrArg (fun z : AlS => z.1) c.o
theorem SaysS.x {fa : List He.Fa} {fn : List He5.DefA} {xs : List (Frag → Bool)} {tf : List He.Defn} {h : Heap} {K : Frag} (c : SaysS fa fn xs tf h K) (i : Nat) {f : Frag → Bool} (hi : xs[i]? = some f) : f K = true :=
  List.all_eq_true.mp (congrArg (fun z : AlS => z.2) c.o) f (List.mem_of_getElem? hi)
end Sim

set_option Elab.async false
set_option linter.all false
set_option maxRecDepth 100000
set_option maxHeartbeats 4000000
/-! a def, called with keywords: f(k = v, ..), f(e, .., k = v, ..) -/
namespace Sim
open PySem PySem.Spec PyProof.Rows L2
/-- a def by its name, with the ways it is called by keywords -/
structure FnK (P : Program) (w : World) (K : Frag) (mg : Str → Option Value) (base : Heap) (x : Str) (k n : Nat) (m : List D → Sto → Res D) (modes : List (Nat × List Str × Bool)) : Prop where
  ex : ∃ (fd : FuncData) (ps : List Str), FnOk P w K mg base (CXp P w) k (He.ga K x) fd ps (spM K n m) ∧ ∀ md ∈ modes, KBn K fd ps md.1 md.2.1 (gB md.2.2) (gB md.2.2)
  glo : mg x = some (.ref (He.ga K x))
  kp : PySem.W.keepIn K (.ref (He.ga K x)) = true
  len : ∀ ds st, m ds st ≠ .bad → ds.length = n
def eCallK (m : List D → Sto → Res D) (n0 nk : Nat) (rv : Bool) (ma mk : Am) : Em := fun σ st => (ma σ st).bind fun as st1 => (mk σ st1).bind fun bs st2 => if as.length = n0 ∧ bs.length = nk then m (gB rv as bs) st2 else .bad
section
variable {X : Cx} {W : WX} {x : Str} {j k n n0 : Nat} {m : List D → Sto → Res D} {modes : List (Nat × List Str × Bool)} {ks : List Str} {rv : Bool} {p pos : Pos} {e : Expr} {es : List Expr} {kws : List Keyword} {ma mk : Am}
theorem run_fnK {f : Addr} {fd : FuncData} {ps : List Str} {sp : Sp} {E : XK} {σ : L2.St} {H : Hp} {s : Shared} {pins : List (Addr × Obj)} {Q : VK} {us ws : List Value} {vs zs : List V}
    (F : FnOk X.prog X.w X.K X.mg X.base (CXp X.prog X.w) k f fd ps sp) (hr : Room k X.A) (B : KBn X.K fd ps n0 ks (gB rv) (gB rv)) (hx : PassesAt (CXp X.prog X.w) X σ E) (I : Inv X pins σ H s) (r : Vals vs us) (rz : Vals zs ws) (l1 : us.length = n0) (l2 : ws.length = ks.length)
    (h : sp (gB rv vs zs) H Q E) : wpAny (model X.prog X.w) X.A (call (.ref f) us (ks.zip ws)) (EP X pins σ Q) X.xe s := by
  refine wpAny_call (codeAny_mono (F.run X.A X.stack s H ⟨us, ks.zip ws⟩ (gB rv us ws) _ Q E hr I.env0 (B.to s us ws I.kIn l1 l2) (B.rel r rz) h) ?_)
  rintro (er | fl) s' hq
  · exact hx pins H s er s' I hq
  · cases fl <;> first | exact I.after hq | exact False.elim hq
theorem t_callK (hn : ∀ ds st, m ds st ≠ .bad → ds.length = n) {nk : Nat} {σV : L2.St} {H : Hp} {Q : VK} (q : TEm X.K (eCallK m n0 nk rv ma mk) W σV H Q) :
    TAm X.K ma W σV H fun vs H1 => TAm X.K mk W σV H1 fun zs H2 => vs.length = n0 ∧ zs.length = nk ∧ spM X.K n m (gB rv vs zs) H2 Q (WE W σV) := by
  obtain ⟨w, σ, rfl, ok, sl, p⟩ := q
  refine ⟨w, σ, rfl, ok, sl, PR.bind ok p fun as st vs mu H1 e1 s1 ok1 r1 p1 => ?_⟩
  refine ⟨⟨mu, st, H1, w.op⟩, σ, rfl, ok1, sl.step s1 ok, PR.bind ok1 p1 fun bs st2 zs mu2 H2 e2 s2 ok2 r2 p2 => ?_⟩
  by_cases hl : as.length = n0 ∧ bs.length = nk
  · rw [if_pos hl] at p2
    exact ⟨r1.length.trans hl.1, r2.length.trans hl.2, ⟨mu2, st2, H2, w.op⟩, gB rv as bs, rfl, ok2, Reps.rev (r1.step s2 ok1) r2, hn _ _ (fun z => by rw [z] at p2; exact p2), p2⟩
  · rw [if_neg hl] at p2
    exact p2.elim
theorem se_fnK (F : FnK X.prog X.w X.K X.mg X.base x k n m modes) (hr : Room j X.A) (hk : k ≤ j) (tk : Takes X W) (ha : SA X W (e :: es) ma) (hkw : SK X W kws mk) (hmd : (n0, ks, rv) ∈ modes) (hg : Gl X x := by rfl) (hdb : (x == ("__debug__" : Str)) = false := by decide)
    (hall : (backToKw pos (keywordEach kws X.env)).all (·.1.isSome) = true := by rfl) (hks : (backToKw pos (keywordEach kws X.env)).filterMap (·.1) = ks := by rfl)
    (he : starEach (e :: es) X.env = (false, eval e X.env) :: starEach es X.env := by rfl) (hpl : ((backTo pos (starEach (e :: es) X.env)).any (·.1) || (backToKw pos (keywordEach kws X.env)).any (·.1.isNone)) = false := by rfl) :
    SE X W (.Call (.Name x p) (e :: es) kws pos) (eCallK m n0 ks.length rv ma mk) := by
  obtain ⟨fd, ps, G, B⟩ := F.ex
  refine ⟨fun pins s σ H Q I h => wpAny_Call_Name_kw (ld_glob I hg F.glo ?_ hdb)⟩
  refine PySem.W.callWith_KW (h₀ := X.base) I.ok.mod.kin F.kp hall (thn (ha.run pos pins s σ H _ I (t_callK F.len h)) fun us s1 ⟨vs, H1, I1, r, q1⟩ => ?_) hpl he
  refine thn (hkw.run pos pins s1 σ H1 _ I1 q1) fun ws s2 ⟨zs, H2, I2, rz, l1, l2, q⟩ => ⟨I2.kIn, ?_⟩
  rw [hks]
  exact run_fnK G (hr.mono hk) (B _ hmd) (passAt tk σ) I2 r rz (r.length.symm.trans l1) (rz.length.symm.trans l2) q
theorem se_fnK0 (F : FnK X.prog X.w X.K X.mg X.base x k n m modes) (hr : Room j X.A) (hk : k ≤ j) (tk : Takes X W) (hkw : SK X W kws mk) (hmd : (0, ks, rv) ∈ modes) (hg : Gl X x := by rfl) (hdb : (x == ("__debug__" : Str)) = false := by decide)
    (hall : (backToKw pos (keywordEach kws X.env)).all (·.1.isSome) = true := by rfl) (hks : (backToKw pos (keywordEach kws X.env)).filterMap (·.1) = ks := by rfl)
    (hpl : ((backTo pos (starEach [] X.env)).any (·.1) || (backToKw pos (keywordEach kws X.env)).any (·.1.isNone)) = false := by rfl) :
    SE X W (.Call (.Name x p) [] kws pos) (eCallK m 0 ks.length rv aNil mk) := by
  obtain ⟨fd, ps, G, B⟩ := F.ex
  refine ⟨fun pins s σ H Q I h => wpAny_Call_Name_kw (ld_glob I hg F.glo ?_ hdb)⟩
  have h2 := t_callK F.len h
  obtain ⟨w, σ', h1, ok, sl, pr⟩ := h2
  have z := PR.ret (R := Reps X.K) ok pr .nil
  rw [h1] at z
  refine PySem.W.callWith_KW0 (h₀ := X.base) I.ok.mod.kin F.kp hall ?_ hpl
  refine thn (hkw.run pos pins s σ H _ I z) fun ws s2 ⟨zs, H2, I2, rz, l1, l2, q⟩ => ⟨I2.kIn, ?_⟩
  rw [hks]
  exact run_fnK (us := []) (vs := []) G (hr.mono hk) (B _ hmd) (passAt tk σ) I2 .nil rz rfl (rz.length.symm.trans l2) q
end
end Sim

set_option Elab.async false
set_option linter.all false
set_option maxRecDepth 100000
set_option maxHeartbeats 4000000
/-! plain instances: storing a field -/
namespace Sim
open PySem PySem.Spec PyProof.Rows L2
def putFD (f : Str) (y : D) : List (Str × D) → List (Str × D)
  | [] => [(f, y)]
  | (g, z) :: r => if g = f then (f, y) :: r else (g, z) :: putFD f y r
theorem putFD_look {f g : Str} {y : D} : ∀ {fs : List (Str × D)}, (putFD f y fs).lookup g ≠ none → g = f ∨ fs.lookup g ≠ none
  | [], h => by
    unfold putFD at h
    rw [List.lookup_cons] at h
    cases q : g == f with
    | true => exact .inl (eq_of_beq q)
    | false => rw [q] at h; simp at h
  | (k, z) :: r, h => by
    unfold putFD at h
    by_cases e : k = f
    · rw [if_pos e, List.lookup_cons] at h
      cases q : g == f with
      | true => exact .inl (eq_of_beq q)
      | false =>
        rw [q] at h
        refine .inr ?_
        rw [List.lookup_cons, e, q]
        exact h
    · rw [if_neg e, List.lookup_cons] at h
      rw [List.lookup_cons]
      cases q : g == k with
      | true => exact .inr (by simp)
      | false =>
        rw [q] at h
        exact putFD_look h
theorem InsC.put {K : Frag} {C f : Str} {y : D} {fs : List (Str × D)} (h : InsC K C fs) (hf : PySem.W.findIn K (.ref (He.ga K C)) f = some none) : InsC K C (putFD f y fs) :=
  ⟨h.cls, h.cn, h.gt, h.tk, h.ob, fun g hg => by
    rcases putFD_look hg with e | e
    · rw [e]; exact hf
    · exact h.no g e⟩
theorem RepF.put {K : Frag} {w : Wd} {f : Str} {v : V} {d : D} (r : Rep K w v d) : ∀ {fv : List (Str × V)} {fs : List (Str × D)}, RepF K w fv fs → RepF K w (putF f v fv) (putFD f d fs)
  | _, _, .nil => .cons r .nil
  | (g, x) :: vs, (_, y) :: ds, .cons q t => by
    by_cases e : g = f
    · have e1 : putF f v ((g, x) :: vs) = (g, v) :: vs := by unfold putF; rw [if_pos e]
      have e2 : putFD f d ((g, y) :: ds) = (f, d) :: ds := by unfold putFD; rw [if_pos e]
      rw [e1, e2, e]
      exact .cons r t
    · have e1 : putF f v ((g, x) :: vs) = (g, x) :: putF f v vs := by conv => lhs; unfold putF; rw [if_neg e]
      have e2 : putFD f d ((g, y) :: ds) = (g, y) :: putFD f d ds := by conv => lhs; unfold putFD; rw [if_neg e]
      rw [e1, e2]
      exact .cons q (RepF.put r t)
/-- o.f = v, o of a class of cs -/
def setF (cs : List Str) (f : Str) (o v : D) (st : Sto) : Option Sto := match o with
  | .ref n => (match st[n]? with
    | some (some (.ins C fs)) => if C ∈ cs ∧ fs.length < 1000 then some (st.set n (some (.ins C (putFD f v fs)))) else none
    | _ => none)
  | _ => none
@[simp] def sFldM (cs : List Str) (f : Str) (m o : Em) : Sm := fun σ st => (m σ st).toRS σ fun v st1 => (o σ st1).toRS σ fun x st2 => match setF cs f x v st2 with
  | some st3 => .nx σ st3
  | none => .bad
theorem ss_fld {X : Cx} {W : WX} {o e : Expr} {mo m : Em} {f : Str} {cs : List Str} {p' pos : Pos} (hno : ∀ C ∈ cs, PySem.W.findIn X.K (.ref (He.ga X.K C)) f = some none) (he : SE X W e m) (ho : SE X W o mo) (hs : swapsWith e (some (.Attribute o f p')) pos.line X.env = pure false := by rfl) :
    SS X W (.Assign [.Attribute o f p'] e pos) (sFldM cs f m mo) := ps_imp (ps_fld ho he hs) fun D σV H q => by
  obtain ⟨w, σ, rfl, ok, sl, p⟩ := q
  refine ⟨w, σ, rfl, ok, sl, PSr.toR ok sl p fun d st v mu H1 e1 s1 ok1 r1 p1 => ?_⟩
  have sl1 := sl.step s1 ok
  refine ⟨⟨mu, st, H1, w.op⟩, σ, rfl, ok1, sl1, PSr.toR ok1 sl1 p1 fun d2 st2 x mu2 H2 e2 s2 ok2 r2 p2 => ?_⟩
  cases e3 : setF cs f d2 d st2 with
  | none => rw [e3] at p2; exact p2.elim
  | some st3 =>
    rw [e3] at p2
    unfold setF at e3
    cases r2 with
    | @ref a n h =>
      cases q1 : st2[n]? with
      | none => simp only [q1] at e3; cases e3
      | some ob =>
        cases ob with
        | none => simp only [q1] at e3; cases e3
        | some ob =>
          cases ob with
          | lst ds => simp only [q1] at e3; cases e3
          | ins C fs =>
            simp only [q1] at e3
            by_cases hC : C ∈ cs ∧ fs.length < 1000
            · rw [if_pos hC] at e3
              cases e3
              obtain ⟨dx, fv, h1, h2, hc⟩ := ok2.obj n a _ h q1
              have hno' := hno C hC.1
              refine ⟨a, _, dx, fv, rfl, h1, hc.cls, hno', by rw [h2.length]; exact hC.2, ?_⟩
              have rv : Rep X.K ⟨mu2, st2, H2, w.op⟩ v d := r1.step s2 ok1
              have s3 := wr_step (w := ⟨mu2, st2, H2, w.op⟩) (o := .ins (He.ga X.K C) dx (putF f v fv)) (u := .ins C (putFD f d fs)) h q1
              have ok3 := wr_ok (K := X.K) (w := ⟨mu2, st2, H2, w.op⟩) (o := .ins (He.ga X.K C) dx (putF f v fv)) (u := .ins C (putFD f d fs)) ok2 h q1 ⟨dx, _, upd_same, (RepF.put rv h2).step s3 ok2, hc.put hno'⟩
              exact p2 σV mu2 _ s3 ok3 ((sl1.step s2 ok1).step s3 ok2)
            · rw [if_neg hC] at e3; cases e3
    | _ => cases e3
end Sim

set_option Elab.async false
set_option linter.all false
set_option maxRecDepth 100000
set_option maxHeartbeats 4000000
/-! plain instances: making one -/
namespace Sim
open PySem PySem.Spec PyProof.Rows L2
structure MkP (P : Program) (w : World) (K : Frag) (mg : Str → Option Value) (base : Heap) (x : Str) (k n : Nat) (m : List D → Sto → Res D) (modes : List (Nat × List Str × Bool)) : Prop where
  ex : ∃ (f : Addr) (fd : FuncData) (ps : List Str), Mk K (He.ga K x) f ∧ FnOk P w K mg base (CXp P w) k f fd ps (spM K (n + 1) m) ∧ ∀ md ∈ modes, KBn K fd ps (md.1 + 1) md.2.1 (gB md.2.2) (gB md.2.2)
  glo : mg x = some (.ref (He.ga K x))
  ins : InsC K x []
  len : ∀ ds st, m ds st ≠ .bad → ds.length = n + 1
def eMkP (x : Str) (m : List D → Sto → Res D) (n0 nk : Nat) (rv : Bool) (ma mk : Am) : Em := fun σ st => (ma σ st).bind fun as st1 => (mk σ st1).bind fun bs st2 => if as.length = n0 ∧ bs.length = nk then
  (m (gB rv (.ref st2.length :: as) bs) (st2 ++ [some (.ins x [])])).bind fun d st3 => (match d with
    | .non => .ok (.ref st2.length) st3
    | _ => .bad) else .bad
section
variable {X : Cx} {W : WX} {x : Str} {j k n n0 : Nat} {m : List D → Sto → Res D} {modes : List (Nat × List Str × Bool)} {ks : List Str} {rv : Bool} {p pos : Pos} {e : Expr} {es : List Expr} {kws : List Keyword} {ma mk : Am}
theorem run_mkP {C f : Addr} {fd : FuncData} {ps : List Str} {sp : Sp} {E : XK} {σ : L2.St} {H : Hp} {s : Shared} {pins : List (Addr × Obj)} {Q : VK} {us ws : List Value} {vs zs : List V}
    (M : Mk X.K C f) (F : FnOk X.prog X.w X.K X.mg X.base (CXp X.prog X.w) k f fd ps sp) (hr : Room (k + 1) X.A) (B : KBn X.K fd ps (n0 + 1) ks (gB rv) (gB rv)) (hx : PassesAt (CXp X.prog X.w) X σ E) (I : Inv X pins σ H s) (r : Vals vs us) (rz : Vals zs ws) (l1 : us.length = n0) (l2 : ws.length = ks.length)
    (h : ∀ y dx, H y = none → H dx = none → dx ≠ y → sp (gB rv (.ref y :: vs) zs) (upd (upd H dx (.own y)) y (.ins C dx [])) (fun v H2 => v = .non ∧ Q (.ref y) H2) E) : wpAny (model X.prog X.w) X.A (call (.ref C) us (ks.zip ws)) (EP X pins σ Q) X.xe s := by
  let y := s.heap.objs.size + 1
  have hq := h y s.heap.objs.size (I.hok.fresh (Nat.le_succ _)) (I.hok.fresh (Nat.le_refl _)) (Nat.ne_of_lt (Nat.lt_succ_self _))
  have J := Inv.made (C := C) I
  have rr : Vals (V.ref y :: vs) (Value.ref y :: us) := .cons rfl r
  refine wpAny_call (make_map (f := f) I.kIn M.makes M.init (beq_iff_eq.mp M.fn) (codeAny_mono (F.run _ X.stack _ _ ⟨Value.ref y :: us, ks.zip ws⟩ (gB rv (Value.ref y :: us) ws) _ _ E (hr.make C us (ks.zip ws)) (J.env0.make C us (ks.zip ws)) (B.to _ (Value.ref y :: us) ws J.kIn (by simp [l1]) l2) (B.rel rr rz) hq) ?_))
  rintro (er | fl) s' z
  · exact hx pins _ _ er s' J z
  · cases fl with
    | ret u =>
      obtain ⟨v, H', I3, rv', ev, q3⟩ := J.after z
      subst ev
      exact ⟨rv', ⟨V.ref y, H', I3, rfl, q3⟩⟩
    | next => exact z.elim
    | brk => exact z.elim
    | cont => exact z.elim
theorem t_mkP (M : InsC X.K x []) (hn : ∀ ds st, m ds st ≠ .bad → ds.length = n + 1) {nk : Nat} {σV : L2.St} {H : Hp} {Q : VK} (q : TEm X.K (eMkP x m n0 nk rv ma mk) W σV H Q) :
    TAm X.K ma W σV H fun vs H1 => TAm X.K mk W σV H1 fun zs H2 => vs.length = n0 ∧ zs.length = nk ∧ ∀ y dx, H2 y = none → H2 dx = none → dx ≠ y →
      spM X.K (n + 1) m (gB rv (.ref y :: vs) zs) (upd (upd H2 dx (.own y)) y (.ins (He.ga X.K x) dx [])) (fun v H3 => v = .non ∧ Q (.ref y) H3) (WE W σV) := by
  obtain ⟨w, σ, rfl, ok, sl, p⟩ := q
  refine ⟨w, σ, rfl, ok, sl, PR.bind ok p fun as st vs mu H1 e1 s1 ok1 r1 p1 => ?_⟩
  refine ⟨⟨mu, st, H1, w.op⟩, σ, rfl, ok1, sl.step s1 ok, PR.bind ok1 p1 fun bs st2 zs mu2 H2 e2 s2 ok2 r2 p2 => ?_⟩
  by_cases hl : as.length = n0 ∧ bs.length = nk
  · rw [if_pos hl] at p2
    refine ⟨r1.length.trans hl.1, r2.length.trans hl.2, fun y dx hy hd hne => ?_⟩
    let w2 : Wd := ⟨mu2, st2, H2, w.op⟩
    have okA : Ok X.K (w2.put dx (.own y)) := put_ok ok2 hd
    have sA : Step w2 (w2.put dx (.own y)) := put_step hd
    have hy' : (w2.put dx (.own y)).H y = none := by
      show upd H2 dx (.own y) y = none
      rw [upd_ne (Ne.symm hne)]
      exact hy
    let w3 : Wd := (w2.put dx (.own y)).add y (.ins (He.ga X.K x) dx []) (.ins x [])
    have sB : Step (w2.put dx (.own y)) w3 := add_step hy'
    have okB : Ok X.K w3 := add_ok okA hy' ⟨dx, [], upd_same, .nil, M⟩
    have sAB : Step w2 w3 := sA.trans sB ok2
    have hmu : w3.mu[st2.length]? = some y := by
      show (mu2 ++ [y])[st2.length]? = some y
      have e : mu2.length = st2.length := ok2.len
      rw [← e]
      simp
    have p3 := PR.step sAB ok2 p2
    have rr : Reps X.K w3 (gB rv (.ref y :: vs) zs) (gB rv (.ref st2.length :: as) bs) := Reps.rev (.cons (.ref hmu) (r1.step (s2.trans sAB ok1) ok1)) (r2.step sAB ok2)
    refine ⟨w3, _, rfl, okB, rr, ?_, ?_⟩
    · refine hn _ (st2 ++ [some (.ins x [])]) (fun z => ?_)
      rw [z] at p2
      exact p2
    · refine PR.bind okB p3 fun d st3 b mu4 H4 e4 s4 ok4 r4 p4 => ?_
      cases r4 with
      | non => exact ⟨rfl, PR.ret (R := Rep X.K) (w := ⟨mu4, st3, H4, w.op⟩) ok4 p4 (.ref (s4.mu_get hmu))⟩
      | _ => exact p4.elim
  · rw [if_neg hl] at p2
    exact p2.elim
theorem se_mkP (M : MkP X.prog X.w X.K X.mg X.base x k n m modes) (hr : Room j X.A) (hk : k + 1 ≤ j) (tk : Takes X W) (hkeep : PySem.W.keepIn X.K (.ref (He.ga X.K x)) = true) (ha : SA X W (e :: es) ma) (hmd : (n0, [], false) ∈ modes) (hg : Gl X x := by rfl) (hdb : (x == ("__debug__" : Str)) = false := by decide)
    (he : starEach (e :: es) X.env = (false, eval e X.env) :: starEach es X.env := by rfl) (hpl : (backTo pos (starEach es X.env)).any (·.1) = false := by rfl) :
    SE X W (.Call (.Name x p) (e :: es) [] pos) (eMkP x m n0 0 false ma aNil) := by
  obtain ⟨f, fd, ps, Mk0, F, B⟩ := M.ex
  refine ⟨fun pins s σ H Q I h => wpAny_Call_Name_kw (ld_glob I hg M.glo ?_ hdb)⟩
  refine PySem.W.callWith_K (h₀ := X.base) I.ok.mod.kin hkeep (thn (ha.run pos pins s σ H _ I (t_mkP M.ins M.len h)) fun us s1 ⟨vs, H1, I1, r, q1⟩ => ⟨I1.kIn, ?_⟩) he hpl
  obtain ⟨w, σ', h1, ok, sl, pr⟩ := q1
  have z := PR.ret (R := Reps X.K) ok pr .nil
  rw [h1] at z
  obtain ⟨l1, _, q⟩ := z
  exact run_mkP (ks := []) (ws := []) (zs := []) Mk0 F (hr.mono hk) (B _ hmd) (passAt tk σ) I1 r .nil (r.length.symm.trans l1) rfl q
end
end Sim

set_option Elab.async false
set_option linter.all false
set_option maxRecDepth 100000
set_option maxHeartbeats 4000000
/-! methods of plain instances: o.m(e, ..), no defaults -/
namespace Sim
open PySem PySem.Spec PyProof.Rows L2
def insOf (C m : Str) (d : D) (st : Sto) : Bool := match d with
  | .ins C' fs => decide (C' = C) && (fs.lookup m).isNone
  | .ref n => (match st[n]? with
    | some (some (.ins C' fs)) => decide (C' = C) && (fs.lookup m).isNone
    | _ => false)
  | _ => false
theorem insOf_ok {K : Frag} {w : Wd} {C m : Str} {v : V} {d : D} (hno : PySem.W.findIn K (.ref (He.ga K C)) "__getattribute__" ≠ some (some (.builtin "BaseException.__getattribute__"))) (ok : Ok K w) (r : Rep K w v d) (h : insOf C m d w.st = true) :
    ∃ a dx fv, v = .ref a ∧ w.H a = some (.ins (He.ga K C) dx fv) ∧ fv.lookup m = none ∧ Cls K (He.ga K C) := by
  have fin : ∀ {C' : Str} {fs : List (Str × D)}, (decide (C' = C) && (fs.lookup m).isNone) = true → C' = C ∧ fs.lookup m = none := fun {C' fs} h => by
    obtain ⟨h1, h2⟩ := Bool.and_eq_true_iff.mp h
    exact ⟨of_decide_eq_true h1, Option.isNone_iff_eq_none.mp h2⟩
  cases r with
  | ins h1 hl ho hs hc =>
    obtain ⟨rfl, e⟩ := fin h
    exact ⟨_, _, _, rfl, h1, hs.lookup_none e, hc.cls⟩
  | exo h1 h2 hl hl2 ho ho2 hs hc =>
    obtain ⟨rfl, e⟩ := fin h
    exact absurd hc.ga hno
  | @ref a n h1 =>
    unfold insOf at h
    cases e : w.st[n]? with
    | none => simp only [e] at h; cases h
    | some o =>
      cases o with
      | none => simp only [e] at h; cases h
      | some o =>
        cases o with
        | lst ds => simp only [e] at h; cases h
        | ins C' fs =>
          simp only [e] at h
          obtain ⟨rfl, q⟩ := fin h
          obtain ⟨dx, fv, h2, h3, hc⟩ := ok.obj n a _ h1 e
          exact ⟨_, _, _, rfl, h2, h3.lookup_none q, hc.cls⟩
  | _ => cases h
def eMeth (C mn : Str) (f : List D → Sto → Res D) (mo : Em) (ma : Am) : Em := fun σ st => (mo σ st).bind fun o st1 => if insOf C mn o st1 = true then (ma σ st1).bind fun as st2 => f (o :: as) st2 else .bad
theorem se_meth {X : Cx} {W : WX} {C mn : Str} {g : Addr} {fd : FuncData} {ps : List Str} {j k n : Nat} {f : List D → Sto → Res D} {o e : Expr} {es : List Expr} {mo : Em} {ma : Am} {apos pos : Pos} {pl : Sem Bool}
    (hno : PySem.W.findIn X.K (.ref (He.ga X.K C)) "__getattribute__" ≠ some (some (.builtin "BaseException.__getattribute__"))) (hm : Meth X.K (He.ga X.K C) mn g) (F : FnOk X.prog X.w X.K X.mg X.base (CXp X.prog X.w) k g fd ps (spM X.K n f)) (hr : Room j X.A) (hk : k ≤ j)
    (hb : Binds X.K fd ps []) (tk : Takes X W) (hn : ∀ ds st, f ds st ≠ .bad → ds.length = n) (ho : SE X W o mo) (ha : SA X W (e :: es) ma)
    (hst : starEach (e :: es) X.env = (false, eval e X.env) :: starEach es X.env := by rfl) (hpl : (backTo pos (starEach es X.env)).any (·.1) = false := by rfl)
    (ht : eval (.Call (.Attribute o mn apos) (e :: es) [] pos) X.env = (do
      let ov ← eval o X.env
      standAt apos.atName
      let (f, first) ← holding [ov] (getMethod ov mn pl)
      callWith pos f first (backTo pos (starEach (e :: es) X.env)) (backToKw pos (keywordEach [] X.env))) := by rfl) :
    SE X W (.Call (.Attribute o mn apos) (e :: es) [] pos) (eMeth C mn f mo ma) := by
  refine ⟨fun pins s σV H Q I q => PySem.W.methodCall_KW (pl := pl) (thn (ho.run pins s σV H (fun x H1 => ∃ a dx fv, x = .ref a ∧ H1 a = some (.ins (He.ga X.K C) dx fv) ∧ fv.lookup mn = none ∧ Cls X.K (He.ga X.K C) ∧
      TAm X.K ma W σV H1 fun vs H2 => spM X.K n f (.ref a :: vs) H2 Q (WE W σV)) I ?_) fun u s1 ⟨x, H1, I1, rx, a, dx, fv, ex, ea, l, c, q1⟩ => ?_) ht⟩
  · obtain ⟨w, σ, rfl, ok, sl, p⟩ := q
    refine ⟨w, σ, rfl, ok, sl, PR.bind ok p fun d st x mu H1 e1 s1 ok1 r1 p1 => ?_⟩
    by_cases hi : insOf C mn d st = true
    · rw [if_pos hi] at p1
      obtain ⟨a, dx, fv, rfl, h1, h2, h3⟩ := insOf_ok (w := ⟨mu, st, H1, w.op⟩) hno ok1 r1 hi
      refine ⟨a, dx, fv, rfl, h1, h2, h3, ⟨mu, st, H1, w.op⟩, σ, rfl, ok1, sl.step s1 ok, PR.bind ok1 p1 fun as st2 vs mu2 H2 e2 s2 ok2 r2 p2 => ?_⟩
      exact ⟨⟨mu2, st2, H2, w.op⟩, d :: as, rfl, ok2, .cons (r1.step s2 ok1) r2, hn _ _ (fun z => by rw [z] at p2; exact p2), p2⟩
    · rw [if_neg hi] at p1
      exact p1.elim
  · subst ex
    obtain rfl : u = Value.ref a := rx
    refine getmeth_ok I1 ea c hm l ?_
    refine PySem.W.callWith_K (first := [.ref a]) (h₀ := X.base) I.ok.mod.kin hm.kp (thn (ha.run pos pins s1 σV H1 _ I1 q1) fun us s2 ⟨vs, H2, I2, r, q2⟩ => ⟨I2.kIn, ?_⟩) hst hpl
    exact run_fnS (us := .ref a :: us) (vs := .ref a :: vs) (E := WE W) F (hr.mono hk) hb (passAt tk σV) I2 (.cons rfl r) q2
end Sim

set_option Elab.async false
set_option linter.all false
set_option maxRecDepth 100000
set_option maxHeartbeats 4000000
/-! texts: methods, int and str, f-strings, times, sign by sign, in; bit_length -/
namespace Sim
open PySem PySem.Spec PyProof.Rows L2
section
variable {K : Frag}
def s0E (f : Str → D) : D → Sto → Res D := fun d st => match d with
  | .str a => .ok (f a) st
  | _ => .bad
def s0D (f : Str → D) : D → List D → Sto → Res D := fun d ds st => match ds with
  | [] => s0E f d st
  | _ :: _ => .bad
theorem gmt_s0 {f : Str → D} {g : Str → V} (h : ∀ w a, Rep K w (g a) (f a)) : GMt K (fun x xs H Q => ∃ a, x = .str a ∧ xs = [] ∧ True ∧ Q (g a) H) (s0D f) := by
  intro w x xs d ds Q E ok rx rs p
  cases rs with
  | nil =>
    cases rx with
    | str a => exact ⟨a, rfl, rfl, trivial, PR.ret (R := Rep K) ok p (h _ _)⟩
    | _ => exact p.elim
  | cons _ _ => exact p.elim
def s1E (f : Str → Str → D) : D → D → Sto → Res D := fun d e st => match d with
  | .str a => (match e with
    | .str b => .ok (f a b) st
    | _ => .bad)
  | _ => .bad
def s1D (f : D → D → Sto → Res D) : D → List D → Sto → Res D := fun d ds st => match ds with
  | [] => .bad
  | e :: r => (match r with
    | [] => f d e st
    | _ :: _ => .bad)
theorem gmt_1 {r : V → List V → Hp → VK → Prop} {f : D → D → Sto → Res D} (h : ∀ (w : Wd) (x y : V) (d e : D) (Q : VK) (E : XK), Ok K w → Rep K w x d → Rep K w y e → PR K (Rep K) w (f d e w.st) Q E → r x [y] w.H Q) : GMt K r (s1D f) := by
  intro w x xs d ds Q E ok rx rs p
  cases rs with
  | nil => exact p.elim
  | cons r1 t =>
    cases t with
    | nil => exact h w x _ d _ Q E ok rx r1 p
    | cons _ _ => exact p.elim
theorem gmt_s1 {f : Str → Str → D} {g : Str → Str → V} (h : ∀ w a b, Rep K w (g a b) (f a b)) : GMt K (fun x xs H Q => ∃ a b, x = .str a ∧ xs = [.str b] ∧ Q (g a b) H) (s1D (s1E f)) :=
  gmt_1 fun w x y d e Q E ok rx ry p => by
    cases rx with
    | str a =>
      cases ry with
      | str b => exact ⟨a, b, rfl, rfl, PR.ret (R := Rep K) ok p (h _ _ _)⟩
      | _ => exact p.elim
    | _ => exact p.elim
def startD := s1D (s1E fun a b => .bl (Txt.startswith a b))
theorem gmt_start : GMt K (fun x xs H Q => ∃ a b, x = .str a ∧ xs = [.str b] ∧ Q (.bl (Txt.startswith a b)) H) startD := gmt_s1 fun _ _ _ => .bl _
def isdigitD := s0D fun a => .bl (Txt.isdigit a)
theorem gmt_isdigit : GMt K (fun x xs H Q => ∃ a, x = .str a ∧ xs = [] ∧ True ∧ Q (.bl (Txt.isdigit a)) H) isdigitD := gmt_s0 fun _ _ => .bl _
def isasciiD := s0D fun a => .bl (Txt.isascii a)
theorem gmt_isascii : GMt K (fun x xs H Q => ∃ a, x = .str a ∧ xs = [] ∧ True ∧ Q (.bl (Txt.isascii a)) H) isasciiD := gmt_s0 fun _ _ => .bl _
theorem reps_strs {w : Wd} : ∀ l : List Str, Reps K w (l.map V.str) (l.map D.str)
  | [] => .nil
  | x :: r => .cons (.str x) (reps_strs r)
def splitE : D → D → Sto → Res D := fun d e st => match d with
  | .str a => (match e with
    | .str b => if (b.length == 0) = false ∧ a.length + 2 ≤ line then .ok (.lst ((Txt.split a b).map .str)) st else .bad
    | _ => .bad)
  | _ => .bad
def splitD := s1D splitE
theorem gmt_split : GMt K (fun x xs H Q => ∃ a b, x = .str a ∧ xs = [.str b] ∧ (b.length == 0) = false ∧ a.length + 2 ≤ sizeLine ∧ rNewStrs (Txt.split a b) H Q) splitD :=
  gmt_1 fun w x y d e Q E ok rx ry p => by
    cases rx with
    | str a =>
      cases ry with
      | str b =>
        unfold splitE at p
        simp only at p
        by_cases h : (b.length == 0) = false ∧ a.length + 2 ≤ line
        · rw [if_pos h] at p
          exact ⟨a, b, rfl, rfl, h.1, by rw [line_eq]; exact h.2, fun q hq => PR.new ok hq p (rep_new_lst ok hq (reps_strs _))⟩
        · rw [if_neg h] at p; exact p.elim
      | _ => exact p.elim
    | _ => exact p.elim
/-- int(text) -/
def intS : List D → Sto → Res D := fun ds st => match ds with
  | [.str s] => (match PySem.intText? s with
    | some n => if s.length ≤ 640 then .ok (.int n) st else .bad
    | none => .bad)
  | _ => .bad
theorem gc_intS : GC K (fun xs H Q => ∃ a n, xs = [.str a] ∧ PySem.intText? a = some n ∧ a.length ≤ 640 ∧ Q (.int n) H) intS := gc1 (fun _ => rfl) (fun a _ _ _ => by cases a <;> rfl) fun w x d Q E ok r p => by
  cases r with
  | str s =>
    unfold intS at p
    simp only at p
    cases e : PySem.intText? s with
    | none => rw [e] at p; exact p.elim
    | some n =>
      rw [e] at p
      simp only at p
      by_cases h : s.length ≤ 640
      · rw [if_pos h] at p
        exact ⟨s, n, rfl, e, h, PR.ret (R := Rep K) ok p (.int _)⟩
      · rw [if_neg h] at p; exact p.elim
  | _ => exact p.elim
def txI (i : Int) : Str := Str.ofString (toString i)
/-- str(int) -/
def strI : List D → Sto → Res D := fun ds st => match ds with
  | [.int i] => if i.natAbs.log2 < 1920 then .ok (.str (txI i)) st else .bad
  | _ => .bad
theorem gc_strI : GC K (fun xs H Q => ∃ i, xs = [.int i] ∧ i.natAbs.log2 < 1920 ∧ Q (.str (toString i)) H) strI := gc1 (fun _ => rfl) (fun a _ _ _ => by cases a <;> rfl) fun w x d Q E ok r p => by
  cases r with
  | int i =>
    unfold strI at p
    simp only at p
    by_cases h : i.natAbs.log2 < 1920
    · rw [if_pos h] at p
      exact ⟨i, rfl, h, PR.ret (R := Rep K) ok p (.str _)⟩
    · rw [if_neg h] at p; exact p.elim
  | _ => exact p.elim
end
section
variable {X : Cx} {W : WX}
/-! ### f-strings -/
def eFmt (m : Em) : Em := fun σ st => (m σ st).bind fun d st1 => match d with
  | .str y => if y.length ≤ line then .ok (.str y) st1 else .bad
  | .int i => if i.natAbs.log2 < 1920 then .ok (.str (txI i)) st1 else .bad
  | _ => .bad
theorem se_fmt {e : Expr} {m : Em} {pos : Pos} (h : SE X W e m) : SE X W (.FormattedValue e (-1) none pos) (eFmt m) := pe_imp (pe_fmt h) fun σV H Q q => by
  obtain ⟨w, σ, rfl, ok, sl, p⟩ := q
  refine ⟨w, σ, rfl, ok, sl, PR.bind ok p fun d st x mu H1 e1 s1 ok1 r1 p1 => ?_⟩
  cases r1 with
  | str y =>
    by_cases h : y.length ≤ line
    · simp only [if_pos h] at p1
      exact .inl ⟨y, rfl, by rw [line_eq]; exact h, PR.ret (R := Rep X.K) ok1 p1 (.str _)⟩
    · simp only [if_neg h] at p1; exact p1.elim
  | int i =>
    by_cases h : i.natAbs.log2 < 1920
    · simp only [if_pos h] at p1
      exact .inr ⟨i, rfl, h, PR.ret (R := Rep X.K) ok1 p1 (.str _)⟩
    · simp only [if_neg h] at p1; exact p1.elim
  | _ => exact p1.elim
theorem se_js1 {e : Expr} {m : Em} {pos : Pos} (h : SE X W e m) : SE X W (.JoinedStr [e] pos) m := pe_joined1 h
def jsM : List Em → Str → Sl → Sto → Res Str
  | [], acc, _, st => .ok acc st
  | m :: ms, acc, σ, st => (m σ st).bind fun d st1 => match d with
    | .str y => if (acc ++ y).length ≤ line then jsM ms (acc ++ y) σ st1 else .bad
    | _ => .bad
def eJs (ms : List Em) : Em := fun σ st => (jsM ms Str.empty σ st).bind fun s st1 => .ok (.str s) st1
inductive SJ (X : Cx) (W : WX) : List Expr → List Em → Prop where
  | nil : SJ X W [] []
  | cons {e : Expr} {m : Em} {es : List Expr} {ms : List Em} (h : SE X W e m) (r : SJ X W es ms) : SJ X W (e :: es) (m :: ms)
theorem SJ.pj {es : List Expr} {ms : List Em} (h : SJ X W es ms) : PJ X es (ms.map fun m => TEm X.K m W) := by
  induction h with
  | nil => exact .nil
  | cons h r ih => exact .cons h ih
theorem js_reads {σV : L2.St} {σ : Sl} {Q : VK} : ∀ {ms : List Em} {acc : Str} {w : Wd}, Ok X.K w → Slots X.K w σ σV → PR X.K (Rep X.K) w ((jsM ms acc σ w.st).bind fun s st1 => .ok (.str s) st1) Q (xk W σV) →
    tJs (ms.map fun m => TEm X.K m W) acc σV w.H fun out H1 => Q (.str out) H1
  | [], acc, w, ok, sl, p => PR.ret (R := Rep X.K) ok p (.str _)
  | m :: ms, acc, w, ok, sl, p => by
    have e0 : ((jsM (m :: ms) acc σ w.st).bind fun s st1 => (Res.ok (.str s) st1 : Res D)) = (m σ w.st).bind fun d st1 => (match d with
      | .str y => if (acc ++ y).length ≤ line then (jsM ms (acc ++ y) σ st1).bind fun s st1 => .ok (.str s) st1 else .bad
      | _ => .bad) := by
      show ((m σ w.st).bind _).bind _ = _
      cases m σ w.st with
      | ok d st =>
        cases d with
        | str y =>
          simp only [Res.bind]
          by_cases h : (acc ++ y).length ≤ line
          · rw [if_pos h, if_pos h]
          · rw [if_neg h, if_neg h]
        | _ => rfl
      | exc x st => rfl
      | bad => rfl
    rw [e0] at p
    refine ⟨w, σ, rfl, ok, sl, PR.bind ok p fun d st x mu H1 e1 s1 ok1 r1 p1 => ?_⟩
    cases r1 with
    | str y =>
      by_cases h : (acc ++ y).length ≤ line
      · simp only [if_pos h] at p1
        exact ⟨y, rfl, by rw [line_eq]; exact h, js_reads (w := ⟨mu, st, H1, w.op⟩) ok1 (sl.step s1 ok) p1⟩
      · simp only [if_neg h] at p1; exact p1.elim
    | _ => exact p1.elim
theorem se_js {v1 v2 : Expr} {rest : List Expr} {ms : List Em} {pos : Pos} (h : SJ X W (v1 :: v2 :: rest) ms) : SE X W (.JoinedStr (v1 :: v2 :: rest) pos) (eJs ms) := pe_imp (pe_joined h.pj) fun σV H Q q => by
  obtain ⟨w, σ, rfl, ok, sl, p⟩ := q
  exact js_reads ok sl p
/-! ### text times number -/
def timesS (a : Str) (n : Int) : Str := ⟨(List.replicate n.toNat a.cps).foldl (· ++ ·) #[]⟩
def mulS : D → D → Sto → Res D := fun x y st => match x with
  | .str a => (match y with
    | .int n => if 2 ≤ n ∧ n ≤ 10000 ∧ a.length ≠ 0 ∧ a.length ≤ 1000 ∧ (timesS a n).length ≤ line then .ok (.str (timesS a n)) st else .bad
    | _ => .bad)
  | _ => .bad
theorem op_mulS : OpR X (binaryOp .Mult) (fun x y H Q => ∃ (a : Str) (n : Int), x = .str a ∧ y = .int n ∧ (2 ≤ n ∧ n ≤ 10000 ∧ a.length ≠ 0 ∧ a.length ≤ 1000 ∧ (timesS a n).length ≤ line) ∧ Q (.str (timesS a n)) H) := by
  intro pins s σ H x y v u Q I rx ry h
  obtain ⟨a, n, rfl, rfl, ⟨h1, h2, h3, h4, h5⟩, q⟩ := h
  obtain ⟨t, rfl⟩ := rx
  obtain ⟨t', rfl⟩ := ry
  have e1 : (n == 1) = false := by
    cases z : n == 1 with
    | false => rfl
    | true => have := eq_of_beq z; omega
  have e2 : (a.length == 0) = false := by
    cases z : a.length == 0 with
    | false => rfl
    | true => exact absurd (eq_of_beq z) h3
  refine PySem.P.mul_str ?_ (fun _ _ => ?_) (fun _ _ => ?_) ?_
  · rw [decide_eq_false (show ¬ n < -(2 ^ 63 : Int) by omega), decide_eq_false (show ¬ n ≥ 2 ^ 63 by omega)] <;> rfl
  · have h6 : (1000 : Int) ≤ (2 ^ 63 - 1) / n := by
      rw [Int.le_ediv_iff_mul_le (by omega)]
      omega
    omega
  · have h7 : a.length * n.toNat ≤ 1000 * 10000 := Nat.mul_le_mul h4 (by omega)
    cases z : Builtin.Str.tooLong (a.length * n.toNat) with
    | false => rfl
    | true =>
      unfold Builtin.Str.tooLong at z
      have := of_decide_eq_true z
      rw [sizeLine_eq] at this
      omega
  · rw [if_neg (show ¬ n < 1 by omega), e1, e2]
    exact ⟨by rw [line_eq]; exact h5, ⟨.str (timesS a n), H, I.tok _, ⟨_, rfl⟩, q⟩⟩
theorem se_mulS {a b : Expr} {ma mb : Em} {pos : Pos} (ha : SE X W a ma) (hb : SE X W b mb) : SE X W (.BinOp a .Mult b pos) (eBin mulS ma mb) := se_bin op_mulS (by
  intro w x y dx dy Q E ok rx ry p
  cases rx with
  | str a =>
    cases ry with
    | int n =>
      unfold mulS at p
      simp only at p
      split at p
      · rename_i h
        exact ⟨a, n, rfl, rfl, h, PR.ret (R := Rep X.K) ok p (.str _)⟩
      · exact p.elim
    | _ => exact p.elim
  | _ => exact p.elim) ha hb
/-! ### sign by sign -/
def signsOf (z : Str) : List D := z.cps.toList.map fun c => .str ⟨#[c]⟩
def iStrM (m : Em) : Im := fun σ st => (m σ st).bind fun d st1 => match d with
  | .str z => .ok (signsOf z) st1
  | _ => .bad
theorem si_str {tg e : Expr} {m : Em} (h : SE X W e m) : SI X W tg e (iStrM m) := pi_imp (pi_str h) fun σV H R q => by
  obtain ⟨w, σ, rfl, ok, sl, p⟩ := q
  refine ⟨w, σ, rfl, ok, sl, PR.bind ok p fun d st v mu H1 e1 s1 ok1 r1 p1 => ?_⟩
  cases r1 with
  | str z =>
    refine ⟨z, rfl, PR.ret (w := ⟨mu, st, H1, w.op⟩) (R := fun w J items => Wk X.K w J items) ok1 p1 ?_⟩
    refine ⟨_, _, by rw [show (signsOf z).length = z.cps.size by unfold signsOf; simp]; exact walk_str, fun _ _ _ => trivial, fun i d w x H' hi s o y => ?_⟩
    obtain ⟨e1, c, e2, e3⟩ := y
    subst e3
    have hd : d = .str ⟨#[c]⟩ := by
      unfold signsOf at hi
      rw [List.getElem?_map, Array.getElem?_toList, e2] at hi
      exact (Option.some.inj hi).symm
    subst hd
    exact ⟨w, e1.symm, rfl, rfl, .refl _, o, .str _⟩
  | _ => exact p1.elim
/-- a sign in a text -/
def inCD : D → D → Sto → Res D := fun x y st => match x with
  | .str s => (match y with
    | .str z => (match s.cps.toList with
      | [c] => .ok (.bl (decide (c ∈ z.cps.toList))) st
      | _ => .bad)
    | _ => .bad)
  | _ => .bad
theorem gop_inC {K : Frag} : GOp K (fun x y H Q => ∃ (c : Nat) (z : Str), x = .str ⟨#[c]⟩ ∧ y = .str z ∧ Q (.bl (decide (c ∈ z.cps.toList))) H) inCD := by
  intro w x y dx dy Q E ok rx ry p
  cases rx with
  | str s =>
    cases ry with
    | str z =>
      unfold inCD at p
      simp only at p
      split at p
      · rename_i c e
        refine ⟨c, z, ?_, rfl, PR.ret (R := Rep K) ok p (.bl _)⟩
        have : s.cps = #[c] := by rw [← Array.toArray_toList (xs := s.cps), e]
        cases s
        exact congrArg (fun a => V.str ⟨a⟩) this
      · exact p.elim
    | _ => exact p.elim
  | _ => exact p.elim
theorem se_inC {a b : Expr} {ma mb : Em} {pos : Pos} (ha : SE X W a ma) (hb : SE X W b mb) (hm : behindInMarks .In b = false := by rfl) : SE X W (.Compare a [.In] [b] pos) (eBin inCD ma mb) := se_cmp op_in_sign gop_inC ha hb hm
/-! ### bit_length -/
def bitsI : D → Sto → Res D := fun d st => match d with
  | .int i => .ok (.int (Builtin.Int.intBits i : Nat)) st
  | _ => .bad
theorem se_bits {o : Expr} {m : Em} {apos pos : Pos} (h : SE X W o m) (hbase : attributeBase o "bit_length" X.env (eval o X.env) = eval o X.env := by rfl) (hline : (apos.endLine == pos.line) = true := by rfl) : SE X W (.Call (.Attribute o "bit_length" apos) [] [] pos) (eUn bitsI m) :=
  pe_imp (pe_bits h hbase hline) fun σV H Q q => by
    obtain ⟨w, σ, rfl, ok, sl, p⟩ := q
    refine ⟨w, σ, rfl, ok, sl, PR.bind ok p fun d st x mu H1 e1 s1 ok1 r1 p1 => ?_⟩
    cases r1 with
    | int i => exact ⟨i, rfl, PR.ret (R := Rep X.K) ok1 p1 (.int _)⟩
    | _ => exact p1.elim
end
end Sim

set_option Elab.async false
set_option linter.all false
set_option maxRecDepth 100000
set_option maxHeartbeats 4000000
/-! static methods; constants of the module; facts of classes of plain instances -/
namespace Sim
open PySem PySem.Spec PyProof.Rows L2
/-! ### facts -/
structure InF (K : Frag) (x : Str) (ns : List Str) : Prop where
  cls : ∀ fs : List (Str × D), (∀ f ∈ fs.map (·.1), f ∈ ns) → InsC K x fs
  mkr : Mk K (He.ga K x) (He.ma K (He.ga K x) "__init__")
  no : ∀ f ∈ ns, PySem.W.findIn K (.ref (He.ga K x)) f = some none
  hno : PySem.W.findIn K (.ref (He.ga K x)) "__getattribute__" ≠ some (some (.builtin "BaseException.__getattribute__"))
theorem insB_ok {K : Frag} {x : Str} {ns : List Str} (h : insB K (He.ga K x) ns = true) : InF K x ns := by
  unfold insB at h
  simp only [Bool.and_eq_true, decide_eq_true_eq, List.all_eq_true] at h
  obtain ⟨h1, h2, h3, h4, h5, h6, h7, h8, h9, h10, h11, h12⟩ := h
  refine ⟨fun fs hf => ⟨⟨h1, h2, h3, h4⟩, h5, gtIn, tkIn, h6, fun f hl => ?_⟩, ⟨h7, h8, h9, h10⟩, h12, by rw [h11]; decide⟩
  cases e : fs.lookup f with
  | none => exact absurd e hl
  | some v => exact h12 f (hf f (mem_of_lookup' e))
theorem notB_ok {K : Frag} {cs : List Str} (h : notB K cs = true) {T : String} (hT : T ∈ tyL) : ∀ C ∈ cs, PySem.W.kitOne K (.ref (He.ga K C)) (.type T) = some false := fun C hC =>
  of_decide_eq_true (List.all_eq_true.mp (List.all_eq_true.mp h C hC) T hT)
theorem gblB_ok {K : Frag} {h : Heap} {mg : Str → Option Value} {x : Str} {id : String} (X : K.In h) (G : h.Ns mainGlobals mg) (c : gblB K x id = true) : mg x = some (.builtin id) := PySem.W.mg_of X G (of_decide_eq_true c)
/-! ### static methods -/
structure StM (K : Frag) (C : Addr) (m : Str) (p f : Addr) : Prop where
  rd : PySem.W.readsIn K C (.type "type") = true
  ga : PySem.W.specialIn K (.ref C) "__getattribute__" = some (some (.builtin "type.__getattribute__"))
  at_ : PySem.W.findCls K (.ref C) (.type "type") m = some (.get (.builtin "staticmethod.__get__") (.ref p) .none (.ref C))
  rc : ∃ rest, PySem.W.recIn K p "staticmethod" = some (.ref f :: rest)
theorem stmB_ok {K : Frag} {C : Addr} {m : Str} (h : stmB K C m = true) : StM K C m (He.ma K C m) (He5.wf K C "staticmethod" m) := by
  unfold stmB at h
  simp only [Bool.and_eq_true, decide_eq_true_eq] at h
  obtain ⟨h1, h2, h3⟩ := h
  obtain ⟨h4, h5⟩ := He5.wrapB_ok h1
  exact ⟨h2, h3, h4, h5⟩
section
variable {X : Cx} {W : WX}
theorem getst_ok {pins : List (Addr × Obj)} {σ : L2.St} {H : Hp} {s : Shared} {C p f : Addr} {m : Str} {pl : Sem Bool} {A : Around} {E : Value → Shared → Prop} {Q : Value × List Value → Shared → Prop} (I : Inv X pins σ H s) (S : StM X.K C m p f)
    (h : ∀ s', Inv X pins σ H s' → Q (.ref f, []) s') : wpAny (model X.prog X.w) A (getMethod (.ref C) m pl) Q E s := by
  obtain ⟨rest, hp⟩ := S.rc
  refine PySem.W.method_cls I.kIn S.ga (PySem.W.cls_bind I.kIn S.rd S.at_ (wpAny_call (PySem.W.sm_get (s := { s with toks := s.toks + 1 }) I.kIn hp ?_)))
  exact PySem.W.handed_on rfl (h _ (I.tok _))
theorem se_stat {C : Str} {mn : Str} {q g : Addr} {fd : FuncData} {ps : List Str} {j k n : Nat} {f : List D → Sto → Res D} {e : Expr} {es : List Expr} {ma : Am} {p0 apos pos : Pos} {pl : Sem Bool}
    (hm : X.mg C = some (.ref (He.ga X.K C))) (S : StM X.K (He.ga X.K C) mn q g) (hkp : PySem.W.keepIn X.K (.ref g) = true) (F : FnOk X.prog X.w X.K X.mg X.base (CXp X.prog X.w) k g fd ps (spM X.K n f)) (hr : Room j X.A) (hk : k ≤ j)
    (hb : Binds X.K fd ps []) (tk : Takes X W) (hn : ∀ ds st, f ds st ≠ .bad → ds.length = n) (ha : SA X W (e :: es) ma)
    (hg : Gl X C := by rfl) (hdb : (C == ("__debug__" : Str)) = false := by decide)
    (hst : starEach (e :: es) X.env = (false, eval e X.env) :: starEach es X.env := by rfl) (hpl : (backTo pos (starEach es X.env)).any (·.1) = false := by rfl)
    (ht : eval (.Call (.Attribute (.Name C p0) mn apos) (e :: es) [] pos) X.env = (do
      let ov ← eval (.Name C p0) X.env
      standAt apos.atName
      let (f, first) ← holding [ov] (getMethod ov mn pl)
      callWith pos f first (backTo pos (starEach (e :: es) X.env)) (backToKw pos (keywordEach [] X.env))) := by rfl) :
    SE X W (.Call (.Attribute (.Name C p0) mn apos) (e :: es) [] pos) (eCall f ma []) := by
  refine ⟨fun pins s σV H Q I q => PySem.W.methodCall_KW (pl := pl) (thn ((pe_glob (v := .ref (He.ga X.K C)) hg hm rfl hdb).run pins s σV H (fun x H1 => x = .ref (He.ga X.K C) ∧ H1 = H) I ⟨rfl, rfl⟩) fun u s1 ⟨x, H1, I1, rx, ex, eH⟩ => ?_) ht⟩
  subst ex eH
  obtain rfl : u = Value.ref (He.ga X.K C) := rx
  refine getst_ok I1 S fun s2 I2 => ?_
  obtain ⟨w, σ, rfl, ok, sl, p⟩ := q
  refine PySem.W.callWith_K (first := []) (h₀ := X.base) I.ok.mod.kin hkp (thn (ha.run pos pins s2 σV _ (fun vs H2 => spM X.K n f vs H2 Q (WE W σV)) I2 ?_) fun us s3 ⟨vs, H2, I3, r, q2⟩ => ⟨I3.kIn, ?_⟩) hst hpl
  · refine ⟨w, σ, rfl, ok, sl, PR.bind ok p fun as st vs mu H1 e1 s1 ok1 r1 p1 => ?_⟩
    rw [List.append_nil] at p1
    exact ⟨⟨mu, st, H1, w.op⟩, as, rfl, ok1, r1, hn _ _ (fun z => by rw [z] at p1; exact p1), p1⟩
  · exact run_fnS (us := us) (vs := vs) (E := WE W) F (hr.mono hk) hb (passAt tk σV) I3 r q2
/-! ### constants of the module: tuples of numbers -/
theorem se_glob {x : Str} {a : Addr} {d : D} {pos : Pos} (hm : X.mg x = some (.ref a)) (r : ∀ w, Ok X.K w → Rep X.K w (.ref a) d) (hg : Gl X x := by rfl) (hdb : (x == ("__debug__" : Str)) = false := by decide) : SE X W (.Name x pos) (eC d) :=
  se_C (v := .ref a) (pe_glob hg hm rfl hdb) r
theorem rep_ktup {K : Frag} {x : Str} {ns : List Int} (h : He.tupB K x (dvI ns) = true) (w : Wd) : Rep K w (.ref (He.ga K x)) (.tup (ns.map .int)) := by
  have z := He.tupB_ok h
  have e : (dvI ns).map (He.Dv.v K) = ns.map V.int := by
    unfold dvI
    rw [List.map_map] <;> rfl
  rw [e] at z
  refine .ktup z ?_
  clear z e h
  induction ns with
  | nil => exact .nil
  | cons i r ih => exact .cons (.int i) ih
theorem ss_bad {X : Cx} {W : WX} {s : Stmt} : SS X W s mBad := ⟨fun _ _ _ _ _ _ h => by obtain ⟨_, _, _, _, _, p⟩ := h; exact p.elim⟩
theorem pss_bad {X : Cx} {body : List Stmt} : PSs X body (fun _ _ _ => False) := ⟨fun _ _ _ _ _ _ h => h.elim⟩
end
end Sim
namespace Sim
open PySem PySem.Spec PyProof.Rows L2
theorem one_no {K : Frag} {C f : Str} {ns : List Str} (h : InF K C ns) (hf : f ∈ ns) : ∀ D ∈ [C], PySem.W.findIn K (.ref (He.ga K D)) f = some none := fun D hD => by
  rw [List.mem_singleton.mp hD]
  exact h.no f hf
/-- a static method by its name -/
structure FnSt (P : Program) (w : World) (K : Frag) (mg : Str → Option Value) (base : Heap) (C mn : Str) (k n : Nat) (f : List D → Sto → Res D) : Prop where
  ex : ∃ (p g : Addr) (fd : FuncData) (ps : List Str), StM K (He.ga K C) mn p g ∧ PySem.W.keepIn K (.ref g) = true ∧ FnOk P w K mg base (CXp P w) k g fd ps (spM K n f) ∧ Binds K fd ps []
  glo : mg C = some (.ref (He.ga K C))
  len : ∀ ds st, f ds st ≠ .bad → ds.length = n
theorem se_st {X : Cx} {W : WX} {C : Str} {mn : Str} {j k n : Nat} {f : List D → Sto → Res D} {e : Expr} {es : List Expr} {ma : Am} {p0 apos pos : Pos} {pl : Sem Bool}
    (F : FnSt X.prog X.w X.K X.mg X.base C mn k n f) (hr : Room j X.A) (hk : k ≤ j) (tk : Takes X W) (ha : SA X W (e :: es) ma)
    (hg : Gl X C := by rfl) (hdb : (C == ("__debug__" : Str)) = false := by decide)
    (hst : starEach (e :: es) X.env = (false, eval e X.env) :: starEach es X.env := by rfl) (hpl : (backTo pos (starEach es X.env)).any (·.1) = false := by rfl)
    (ht : eval (.Call (.Attribute (.Name C p0) mn apos) (e :: es) [] pos) X.env = (do
      let ov ← eval (.Name C p0) X.env
      standAt apos.atName
      let (f, first) ← holding [ov] (getMethod ov mn pl)
      callWith pos f first (backTo pos (starEach (e :: es) X.env)) (backToKw pos (keywordEach [] X.env))) := by rfl) :
    SE X W (.Call (.Attribute (.Name C p0) mn apos) (e :: es) [] pos) (eCall f ma []) := by
  obtain ⟨p, g, fd, ps, S, hkp, G, hb⟩ := F.ex
  exact se_stat F.glo S hkp G hr hk hb tk F.len ha hg hdb hst hpl ht
end Sim

set_option Elab.async false
set_option linter.all false
set_option maxRecDepth 100000
set_option maxHeartbeats 4000000
/-! raise C(..), C an exception class of the program with its own __init__ -/
namespace Sim
open PySem PySem.Spec PyProof.Rows L2
section
variable {X : Cx} {pins : List (Addr × Obj)} {σ : L2.St} {H : Hp} {s : Shared} {C fI : Addr} {k n : Nat} {fd : FuncData} {ps ks : List Str} {tp : List (Str × Fl)}
theorem run_raiseX {CX : CXT} {Q : XK} {us : List Value} {vs : List V} (T : ExG X.K C) (rz : Raises X (.ref C)) (iC : PySem.W.findIn X.K (.ref C) "__init__" = some (some (.ref fI))) (tI : PySem.W.typeIn X.K (.ref fI) = some (.type "function"))
    (F1 : FnOk X.prog X.w X.K X.mg X.base CX k fI fd ps (spI C n tp)) (hr : Room (k + 1) X.A) (hb : KBn X.K fd ps (vs.length + 1) [] (gB false) (gB false)) (hx : Passes CX X (fun _ _ _ => False))
    (I : Inv X pins σ H s) (r : Vals vs us) (hl : vs.length ≤ 1000) (hn : vs.length = n)
    (h : ∃ fs, tpV tp vs = some fs ∧ ∀ d, H d = none → Q (.ref C) (some d) (upd H d (.xd fs))) :
    wpAny (model X.prog X.w) X.A (call (.ref C) us) (L2.MkP X pins σ Q) X.xe s := by
  obtain ⟨B, newId, initId, bmB, FB, SF, q0, ov⟩ := T.base
  obtain ⟨nm, N, qn, bs, bm, hdct, sn, sub, ab, col, dd, k0, k1, k2, k3, k5, hC, hT⟩ := PySem.W.excInit_of I.kIn q0
  obtain ⟨fs, hfs, hq0⟩ := h
  obtain ⟨hp, g, dr, tk, os⟩ := s
  have hsz : hp.objs.size ≤ hp.objs.size + 1 := Nat.le_succ _
  have hn0 : H (hp.objs.size + 1) = none := I.hok.fresh hsz
  have kk : ∀ b o, hp.get? b = some o → ((hp.push (PySem.W.kdv_tup us)).push (PySem.HandSPX.excO C hp.objs.size)).get? b = some o := fun b o e => Heap.get?_push_of_some _ (Heap.get?_push_of_some _ e)
  have hget : ((hp.push (PySem.W.kdv_tup us)).push (PySem.HandSPX.excO C hp.objs.size)).get? (hp.objs.size + 1) = some (PySem.HandSPX.excO C hp.objs.size) := by heap_get
  have I2 : Inv X pins σ (upd H (hp.objs.size + 1) (exo (hp.objs.size + 1) C none)) ⟨(hp.push (PySem.W.kdv_tup us)).push (PySem.HandSPX.excO C hp.objs.size), g, dr, tk, os⟩ :=
    I.laid (t' := tk) (a := hp.objs.size + 1) (o := exo (hp.objs.size + 1) C none) (h' := (hp.push (PySem.W.kdv_tup us)).push (PySem.HandSPX.excO C hp.objs.size)) kk hsz (exo_ok hget)
  have r1 : Vals (V.ref (hp.objs.size + 1) :: vs) (Value.ref (hp.objs.size + 1) :: us) := .cons rfl r
  have r2 := hb.rel r1 (.nil : Vals [] [])
  have n1 : (Value.ref (hp.objs.size + 1) :: us).length = vs.length + 1 := by rw [List.length_cons, ← r.length]
  have hus : us.length ≤ sizeLine := by
    rw [← Paired.length r, sizeLine_eq]
    omega
  have hq : spI C n tp (gB false (V.ref (hp.objs.size + 1) :: vs) []) (upd H (hp.objs.size + 1) (exo (hp.objs.size + 1) C none)) (fun v H2 => v = .non ∧ ∃ d, H d = none ∧ d ≠ hp.objs.size + 1 ∧ H2 = upd (upd H d (exd d fs)) (hp.objs.size + 1) (exo (hp.objs.size + 1) C (some d))) (fun _ _ _ => False) := by
    refine ⟨hp.objs.size + 1, vs, fs, by simp [gB], hn, upd_same, hfs, fun d hd hne => ⟨rfl, d, by rw [upd_ne hne] at hd; exact hd, hne, ?_⟩⟩
    funext b
    by_cases h1 : b = hp.objs.size + 1
    · rw [h1, upd_same, upd_same]
    · rw [upd_ne h1, upd_ne h1]
      by_cases h2 : b = d
      · rw [h2, upd_same, upd_same]
      · rw [upd_ne h2, upd_ne h2, upd_ne h1]
  refine wpAny_call (PySem.SimX.callK FB hT hC (PySem.W.looks_findIn I.kIn iC) (fun self => PySem.W.bind_fn I.kIn self tI) hus (codeAny_mono (F1.run _ X.stack _ _ ⟨Value.ref (hp.objs.size + 1) :: us, []⟩ (gB false (Value.ref (hp.objs.size + 1) :: us) []) _ _ (fun _ _ _ => False) (hr.make C us [])
    (I2.env0.make C us []) (hb.to _ (Value.ref (hp.objs.size + 1) :: us) [] I2.kIn n1 rfl) r2 hq) fun r s' hq' => ?_))
  cases r with
  | error e => exact hx pins σ _ _ e s' I2 hq'
  | ok fl =>
    cases fl with
    | ret u =>
      obtain ⟨v, H2, os2, bare2, un2, hok2, rv, ev, d, hd, hne, e3⟩ := hq'
      subst ev
      subst e3
      obtain ⟨h2, g2, d2, t2, os'⟩ := s'
      refine ⟨rv, mk_end (d := d) (fs := fs) rz I hsz kk un2 hok2 os2 bare2 upd_same (by rw [upd_ne hne, upd_same]) hd ?_⟩
      have e : upd (del (upd (upd H d (exd d fs)) (hp.objs.size + 1) (exo (hp.objs.size + 1) C (some d))) (hp.objs.size + 1)) d (.xd fs) = upd H d (.xd fs) := by
        funext b
        by_cases h2 : b = d
        · rw [h2, upd_same, upd_same]
        · rw [upd_ne h2, upd_ne h2]
          by_cases h1 : b = hp.objs.size + 1
          · rw [h1, del_same, hn0]
          · rw [del_ne h1, upd_ne h1, upd_ne h2]
      rw [e]
      exact hq0 d hd
    | next => exact False.elim hq'
    | brk => exact False.elim hq'
    | cont => exact False.elim hq'
end
section
variable {X : Cx} {W : WX} {x : Str} {n k : Nat} {tp : List (Str × Fl)} {modes : List (Nat × List Str × Bool)} {p pos rpos : Pos} {e : Expr} {es : List Expr} {ma : Am}
def tRaiseX (C : Addr) (tp : List (Str × Fl)) (n : Nat) (tA : TA) : L2.St → Hp → XK → Prop := fun σ H Q => tA σ H fun vs H1 => vs.length = n ∧ ∃ fs, tpV tp vs = some fs ∧ ∀ d, H1 d = none → Q (.ref C) (some d) (upd H1 d (.xd fs))
theorem pmk_raiseX (M : MkX X.prog X.w X.K X.mg X.base x n tp modes) (hmd : (n, [], false) ∈ modes) (h0 : n ≤ 1000) (hr : Room (k + 2) X.A) (tk : Takes X W) {tA : TA} (ha : PA X (e :: es) tA) (hg : Gl X x) (hdb : (x == ("__debug__" : Str)) = false := by decide)
    (he : starEach (e :: es) X.env = (false, eval e X.env) :: starEach es X.env := by rfl) (hpl : (backTo pos (starEach es X.env)).any (·.1) = false := by rfl) :
    PMk X (.Call (.Name x p) (e :: es) [] pos) (tRaiseX (He.ga X.K x) tp n tA) := by
  obtain ⟨fI, fd, ps, iC, tI, F, B⟩ := M.init
  intro pins s σ H Q I h
  refine wpAny_Call_Name_kw (ld_glob I hg M.glo ?_ hdb)
  refine PySem.W.callWith_K (h₀ := X.base) I.ok.mod.kin M.T.kC (thn (ha.run pos pins s σ H _ I h) fun us s1 ⟨vs, H1, I1, r, l1, q⟩ => ⟨I1.kIn, ?_⟩) he hpl
  have b := B _ hmd
  simp only at b
  rw [← l1] at b
  exact run_raiseX M.T (raises_own (M.cls (tp.map fun t => (t.1, D.non)) (by rw [List.map_map]; rfl)).exC M.ty) iC tI F (hr.mono (by omega)) b (no_pass tk) I1 r (by rw [l1]; exact h0) l1 q
theorem pmk_raiseX0 (M : MkX X.prog X.w X.K X.mg X.base x 0 tp modes) (hmd : (0, [], false) ∈ modes) (hr : Room (k + 2) X.A) (tk : Takes X W) (hg : Gl X x) (hdb : (x == ("__debug__" : Str)) = false := by decide) :
    PMk X (.Call (.Name x p) [] [] pos) (tRaiseX (He.ga X.K x) tp 0 tNil) := by
  obtain ⟨fI, fd, ps, iC, tI, F, B⟩ := M.init
  intro pins s σ H Q I h
  refine wpAny_Call_Name_kw (ld_glob I hg M.glo ?_ hdb)
  obtain ⟨l1, q⟩ := h
  exact PySem.W.callWith_K0 I.kIn M.T.kC (run_raiseX (us := []) (vs := []) M.T (raises_own (M.cls (tp.map fun t => (t.1, D.non)) (by rw [List.map_map]; rfl)).exC M.ty) iC tI F (hr.mono (by omega)) (B _ hmd) (no_pass tk) I .nil (by simp) rfl q)
def sRaise (x : Str) (tp : List (Str × Fl)) (n : Nat) (ma : Am) : Sm := fun σ st => (ma σ st).toRS σ fun as st1 => if as.length = n then (match tpD tp as with
  | some fs => .exc ⟨x, fs⟩ σ st1
  | none => .bad) else .bad
theorem t_raiseX (hc : ∀ fs : List (Str × D), fs.map (·.1) = tp.map (·.1) → ExcC X.K x fs) {D0 : Ends} {σV : L2.St} {H : Hp} (q : TSm X.K (sRaise x tp n ma) W D0 σV H) : tRaiseX (He.ga X.K x) tp n (TAm X.K ma W) σV H fun c d H' => W c d σV H' := by
  obtain ⟨w, σ, rfl, ok, sl, p⟩ := q
  refine ⟨w, σ, rfl, ok, sl, PSr.toR ok sl p fun as st vs mu H1 e1 s1 ok1 r1 p1 => ?_⟩
  by_cases hl : as.length = n
  · rw [if_pos hl] at p1
    cases e3 : tpD tp as with
    | none => simp only [e3] at p1; exact p1.elim
    | some fs =>
      simp only [e3] at p1
      obtain ⟨fv, h1, h2, h3⟩ := tpD_rep r1 e3
      refine ⟨by rw [r1.length]; exact hl, fv, h1, fun d hd => ?_⟩
      have oA := put_ok (o := .xd fv) ok1 hd
      have sA := put_step (w := ⟨mu, st, H1, w.op⟩) (o := .xd fv) hd
      exact p1 _ _ σV mu _ sA oA ((sl.step s1 ok).step sA ok1) ⟨rfl, hc fs h3, d, fv, rfl, upd_same, put_live ok1 hd, ok1.notOp hd, h2.step sA ok1⟩
  · rw [if_neg hl] at p1
    exact p1.elim
theorem ss_raise (hcalm : X.calm = true) (M : MkX X.prog X.w X.K X.mg X.base x n tp modes) (hr : Room (k + 2) X.A) (tk : Takes X W) (ha : SA X W (e :: es) ma) (hmd : (n, [], false) ∈ modes := by simp) (h0 : n ≤ 1000 := by decide) (hg : Gl X x := by rfl) (hdb : (x == ("__debug__" : Str)) = false := by decide)
    (he : starEach (e :: es) X.env = (false, eval e X.env) :: starEach es X.env := by rfl) (hpl : (backTo pos (starEach es X.env)).any (·.1) = false := by rfl) : SS X W (.Raise (some (.Call (.Name x p) (e :: es) [] pos)) none rpos) (sRaise x tp n ma) :=
  ps_imp (ps_raise hcalm tk (pmk_raiseX (tA := TAm X.K ma W) M hmd h0 hr tk ha hg hdb he hpl)) fun D σV H q => t_raiseX M.cls q
theorem ss_raise0 (hcalm : X.calm = true) (M : MkX X.prog X.w X.K X.mg X.base x 0 tp modes) (hr : Room (k + 2) X.A) (tk : Takes X W) (hmd : (0, [], false) ∈ modes := by simp) (hg : Gl X x := by rfl) (hdb : (x == ("__debug__" : Str)) = false := by decide) : SS X W (.Raise (some (.Call (.Name x p) [] [] pos)) none rpos) (sRaise x tp 0 aNil) :=
  ps_imp (ps_raise hcalm tk (pmk_raiseX0 M hmd hr tk hg hdb)) fun D σV H q => by
    obtain ⟨w, σ, h1, ok, sl, p⟩ := t_raiseX M.cls q
    have z := PR.ret (R := Reps X.K) ok p .nil
    rw [h1] at z
    exact z
end
end Sim

set_option Elab.async false
set_option linter.all false
set_option maxRecDepth 100000
set_option maxHeartbeats 4000000
/-! try: body / except C as x: suite / ..; defs that are called in a suite -/
namespace Sim
open PySem PySem.Spec PyProof.Rows L2
/-! ### the caught exception, tracked -/
section
variable {X : Cx} {pins : List (Addr × Obj)} {σ : L2.St} {H : Hp} {s : Shared}
theorem xo_tup {a C d : Addr} {xs : List V} : xo a C d ≠ .tup xs := fun z => by
  have z' : HO.ext _ = HO.tup xs := z
  cases z'
theorem adopt {a C dx : Addr} {oe : Obj} {vs : Array Value} (I : Inv X pins σ H s) (he : s.heap.get? a = some oe) (hcl : oe.cls = .ref C) (hdi : oe.dict = some dx) (hd : oe.data = .fields vs) (na : H a = none) (nL : a ≠ X.env.locals) (nF : a ∉ X.fs)
    (n0 : a ∉ X.ex → X.s_0.heap.get? a = none) (nP : ∀ p ∈ X.pn ++ pins, p.1 ≠ a) : Inv (X.suite a (X.pn ++ pins)) [] σ (upd H a (xo a C dx)) s := by
  have ne : ∀ {b : Addr} {o : HO}, H b = some o → b ≠ a := fun {b o} e z => by rw [z, na] at e; cases e
  refine ⟨I.ok.suite _ _, I.os, I.bare, ⟨I.base.keep, I.base.slot, fun b o e n hx => ?_, I.base.there, fun b xs e => ?_, fun b o v e => ?_, fun b ps e => ?_⟩, I.loc, I.cell, ?_, fun x c e => ?_, fun p hp => ?_, fun b u e => ?_, I.len⟩
  · have q : b ≠ a := fun z => by
      rw [z] at e hx
      rw [n0 hx] at e; cases e
    rw [upd_ne q]
    exact I.base.free b o e n hx
  · have z := I.base.tups b xs e
    rw [upd_ne (ne z)]; exact z
  · have z := I.base.frzs b o v e
    rw [upd_ne (ne z)]; exact z
  · obtain ⟨more, z⟩ := I.base.tbls b ps e
    exact ⟨more, by rw [upd_ne (ne z)]; exact z⟩
  · show upd H a (xo a C dx) X.env.locals = none
    rw [upd_ne (Ne.symm nL)]
    exact I.free
  · have z := I.freeC x c e
    obtain ⟨v, o, ho, hc⟩ := I.cell x c e
    have q : c ≠ a := fun q => by
      rw [q, he] at ho
      cases ho
      rw [hd] at hc; cases hc
    rw [upd_ne q]
    exact z
  · rw [List.append_nil] at hp
    obtain ⟨e1, e2, e3, e4, e5⟩ := I.pin p hp
    exact ⟨e1, by rw [upd_ne (nP p hp)]; exact e2, e3, e4, e5⟩
  · by_cases hb : b = a
    · subst hb
      rw [upd_same] at e
      cases e
      exact ⟨⟨_, _, he, hcl, hdi, hd⟩, ⟨_, he⟩, fun _ _ ⟨o, vs, e1, e2⟩ k => ⟨o, vs, k _ e1, e2⟩⟩
    · rw [upd_ne hb] at e
      exact (I.hok b u e).stay (fun _ _ _ z => z) (fun c hc => by rw [upd_ne (ne hc)]; exact hc) fun c xs hc => by rw [upd_ne (ne hc)]; exact hc
theorem unadopt {a : Addr} {pn' : List (Addr × Obj)} (I : Inv (X.suite a (X.pn ++ pins)) pn' σ H s) (ok : X.Ok) : Inv X pins σ H s :=
  ⟨ok, I.os, I.bare, I.base, I.loc, I.cell, I.free, I.freeC, fun p hp => I.pin p (List.mem_append_left _ hp), I.hok, I.len⟩
end
/-! ### the clauses -/
def dW (D : Ends) (i : Nat) : Ends := { nx := fun σ' H' => D.nx (σ'.set i none) H', rt := D.rt, bk := fun σ' H' => D.bk (σ'.set i none) H', ct := fun σ' H' => D.ct (σ'.set i none) H' }
def wCl (K : Frag) (Wout : WX) (D : Ends) : List (Value × Nat × TS) → WX
  | [] => Wout
  | (c, i, ts) :: r => fun cls d σ H => ∃ b, PySem.W.exmOne K cls c = some b ∧ (b = true → ∃ C dx, cls = .ref C ∧ d = some dx ∧ ∀ a, H a = none → ts (dW D i) (σ.set i (some (.ref a))) (upd H a (xo a C dx))) ∧ (b = false → wCl K Wout D r cls d σ H)
inductive HdsA (X : Cx) : List ExceptHandler → List (Value × Nat × TS) → Prop
  | nil : HdsA X [] []
  | cons {x n : Str} {c : Value} {i : Nat} {ts : TS} {b₀ : Stmt} {suite : List Stmt} {np pos' : Pos} {hds : List ExceptHandler} {l : List (Value × Nat × TS)} (hc : Names X x c) (hi : X.N[i]? = some n) (hln : X.env.kindOf n = some .local)
      (hsu : ∀ (a : Addr) (pn : List (Addr × Obj)), PSs (X.suite a pn) (b₀ :: suite) ts) (r : HdsA X hds l) :
      HdsA X (.ExceptHandler (some (.Name x np)) (some n) (b₀ :: suite) pos' :: hds) ((c, i, ts) :: l)
section
variable {X : Cx} {body : List Stmt} {h₀ : ExceptHandler} {hds : List ExceptHandler} {l : List (Value × Nat × TS)} {pos : Pos} {tb : WX → TS} {Wout : WX}
theorem ps_try_cl (hs : X.stack = X.env :: X.outer) (hf : X.env.frame = some X.env.locals) (hN : X.N.Nodup) (tk : Takes X Wout)
    (hb : ∀ (W : WX) (pn : List (Addr × Obj)) (xe : Value → Shared → Prop), Takes (X.tr pn xe) W → PassesOwn (model X.prog X.w) X.A X.env xe → PSs (X.tr pn xe) body (tb W))
    (hh : HdsA X (h₀ :: hds) l) : PS X (.Try body (h₀ :: hds) [] [] pos) (fun D σ H => tb (wCl X.K Wout D l) D σ H) := by
  refine ⟨fun pins s σ H D I h => ?_⟩
  have ok := I.ok
  have hfr : X.A.frames = some (X.env :: X.outer) := by rw [ok.frames, hs]
  refine wpAny_Try_except ?_
  refine wpAny_mono ((hb (wCl X.K Wout D l) (X.pn ++ pins) (fun e s₁ => wpAny (model X.prog X.w) X.A (noteFrame e X.env) (fun _ s₂ => wpAny (model X.prog X.w) X.A (setFlight e none) (fun _ s₃ =>
    wpAny (model X.prog X.w) X.A (handleBy e X.env (h₀ :: hds)) (L2.SP X pins D) X.xe s₃) X.xe s₂) X.xe s₁) (fun u s' xx => ?_) PassesOwn.looking).run [] s σ H D (I.toTry _) h) (fun f s1 hsp => ?_) (fun e s1 he => he)
  · obtain ⟨a, B, sI, pins', σ', H', cls, d, rfl, J', nb, up, sky, na, os, ag, w⟩ := xx
    have J : Inv X pins σ' H' sI := J'.ofTry ok
    have sky' : Sky B (X.env :: X.outer) a (Zc cls d) X.env.locals s'.heap := by rw [← hs]; exact sky
    show wpAny (model X.prog X.w) X.A (noteFrame (.ref a) X.env) _ _ _
    refine Sky.land Zc.steady hfr hf sky' fun h3 fl3 up3 => ?_
    have J3 : Inv X pins σ' H' { s' with heap := h3 } := J.landed nb fl3.1 (up.trans up3) os ag
    obtain ⟨oe3, vs3, he3, hz3, hd3⟩ := fl3.there
    have notFr : ∀ {h : Heap} {o : Obj} {vs : Array Value}, h.FunFrames B (X.env :: X.outer) → h.get? a = some o → o.data = .fields vs → a ∉ frs (X.env :: X.outer) := fun {h o vs} ff e dd hm => by
      obtain ⟨_, o', e', hnf⟩ := ff.mem hm
      rw [e] at e'; cases e'
      exact hnf _ dd
    have nfr := notFr fl3.2.2.1 he3 hd3
    have nL : a ≠ X.env.locals := fun z => nfr (List.mem_filterMap.mpr ⟨X.env, List.mem_cons_self, by rw [hf, z]⟩)
    have nF : a ∉ X.fs := fun hm => by
      obtain ⟨e, he, q⟩ := List.mem_filterMap.mp hm
      exact nfr (List.mem_filterMap.mpr ⟨e, List.mem_cons_of_mem _ he, q⟩)
    have nI : sI.heap.get? a = none := by
      cases q : sI.heap.get? a with
      | none => rfl
      | some o =>
        have z := nb a o q (by rw [hs]; exact nfr)
        rw [fl3.2.1] at z
        cases z
    have n0 : a ∉ X.ex → X.s_0.heap.get? a = none := fun hx => by
      cases q : X.s_0.heap.get? a with
      | none => rfl
      | some o =>
        obtain ⟨o', z⟩ := J.base.there a o q hx
        rw [nI] at z; cases z
    have nP : ∀ p ∈ X.pn ++ pins, p.1 ≠ a := fun p hp z => by
      have q := (J.pin p hp).1
      rw [z, nI] at q; cases q
    have S3 := J3.suite he3 hd3 na nL nF
    have go : ∀ {hds' : List ExceptHandler} {l' : List (Value × Nat × TS)}, HdsA X hds' l' → wCl X.K Wout D l' cls d σ' H' →
        wpAny (model X.prog X.w) X.A (handleBy (.ref a) X.env hds') (L2.SP X pins D) X.xe { s' with heap := h3 } := by
      intro hds' l' hk
      induction hk with
      | nil =>
        intro w
        refine wpAny_handleBy_nil ?_
        obtain ⟨k1, k2, k3, oe, vs, T, oT, ts', he, hz, hd, h1, hr⟩ := id fl3
        unfold PySem.passOn
        refine wpAny_bind (wpAny_field he hd h1 ?_)
        rw [if_neg (show ¬ ((Value.ref T == Value.none) = true) from by simp)]
        have fin : wpAny (model X.prog X.w) X.A (setFlight (.ref a) X.env.frame) (fun _ s4 => wpAny (model X.prog X.w) X.A (throw (.ref a) : Sem Flow) (L2.SP X pins D) X.xe s4) X.xe { s' with heap := h3 } := by
          rw [hf]
          refine HandSPX.setFlight_upZ fl3 fun h4 hh4 up4 => wpAny_throw (tk _ _ ?_)
          exact ⟨a, B, sI, pins, σ', H', cls, d, rfl, J, nb, (up.trans up3).trans up4, .inr (.inr (by rw [hs]; exact hh4)), na, os, ag, w⟩
        first
          | exact wpAny_bind (wpAny_pure (wpAny_bind fin))
          | exact wpAny_bind fin
      | @cons x n c i ts b₀ suite np pos' hds2 l2 hc hi hln hsu r ih =>
        intro w
        obtain ⟨b, hb1, hyes, hno⟩ := w
        refine wpAny_handleBy_cons (codeAny_handlers_test ?_) (by intro q; cases q)
        have LT : PySem.W.Looks (model X.prog X.w) h3 (typeOf (.ref a)) cls := fun A Q E s k q => wpAny_typeOf_ref (k _ _ he3) (by rw [hz3.1]; exact q)
        have LM := PySem.W.exm_one (M := model X.prog X.w) (J3.kIn) LT hb1
        have test : ∀ {Q : Value → Shared → Prop} {E : Value → Shared → Prop}, Q c { s' with heap := h3 } → wpAny (model X.prog X.w) (X.A.mark (some (.ref a))) (eval (.Name x np) X.env) Q E { s' with heap := h3 } := fun {Q E} q => by
          obtain ⟨hg, hdbg, hm | ⟨hm, hv, hnn⟩⟩ := hc
          · exact ld_glob (X := X.suite a ((a, oe3) :: (X.pn ++ pins))) S3 hg hm q hdbg
          · exact ld_blt (X := X.suite a ((a, oe3) :: (X.pn ++ pins))) S3 hg hm hv q hnn hdbg
        refine test (LM.here ?_)
        cases b with
        | true =>
          obtain ⟨C, dx, ec, ed, hy2⟩ := hyes rfl
          subst ec ed
          refine codeAny_handlers_suite_as ?_
          refine HandSPX.lands_againZ fl3 fun h4 fl4 up4 => ?_
          have J4 : Inv X pins σ' H' { s' with heap := h4 } := J.landed nb fl4.1 ((up.trans up3).trans up4) os ag
          obtain ⟨oe4, vs4, he4, hz4, hd4⟩ := fl4.there
          have S4 := adopt (C := C) (dx := dx) J4 he4 hz4.1 hz4.2 hd4 na nL nF n0 nP
          have hloc : Loc X.env.scope n := .inl hln
          refine store_ok (X := X.suite a (X.pn ++ pins)) (v := .ref a) S4 hN hi hloc rfl (fun s5 S5 => ?_) (.inr hln)
          refine wpAny_mono ((hsu a (X.pn ++ pins)).run [] s5 _ _ (dW D i) S5 (hy2 a na)) (fun f s6 hsp => ?_) (fun _ _ z => False.elim z)
          have end_ : ∀ {σ6 : L2.St} {H6 : Hp} {Q : Shared → Prop}, Inv (X.suite a (X.pn ++ pins)) [] σ6 H6 s6 → (∀ s7, Inv X pins (σ6.set i none) H6 s7 → Q s7) →
              wpAny (model X.prog X.w) X.A (do bindName X.env n .none; unbindBehindTheSuite X.env n pos') (fun _ s7 => Q s7) X.xe s6 := fun {σ6 H6 Q} S6 hq => gone_ok (unadopt S6 ok) hN hi hln hq
          cases f with
          | next =>
            obtain ⟨σ6, H6, S6, q6⟩ := hsp
            exact end_ S6 fun s7 J7 => ⟨_, _, J7, q6⟩
          | brk =>
            obtain ⟨σ6, H6, S6, q6⟩ := hsp
            exact end_ S6 fun s7 J7 => ⟨_, _, J7, q6⟩
          | cont =>
            obtain ⟨σ6, H6, S6, q6⟩ := hsp
            exact end_ S6 fun s7 J7 => ⟨_, _, J7, q6⟩
          | ret u =>
            obtain ⟨v6, σ6, H6, S6, r6, q6⟩ := hsp
            exact end_ S6 fun s7 J7 => ⟨_, _, _, J7, r6, q6⟩
        | false =>
          show wpAny _ X.A (handleBy (.ref a) X.env hds2) _ _ _
          exact ih (hno rfl)
    exact go hh w
  · cases f with
    | next =>
      obtain ⟨σ', H', J', q⟩ := hsp
      exact wpAny_execs_nil ⟨σ', H', J'.ofTry ok, q⟩
    | brk =>
      obtain ⟨σ', H', J', q⟩ := hsp
      exact ⟨σ', H', J'.ofTry ok, q⟩
    | cont =>
      obtain ⟨σ', H', J', q⟩ := hsp
      exact ⟨σ', H', J'.ofTry ok, q⟩
    | ret u =>
      obtain ⟨v, σ', H', J', r, q⟩ := hsp
      exact ⟨v, σ', H', J'.ofTry ok, r, q⟩
end
/-! ### the mirror -/
structure Cl where
  c : Str
  i : Nat
  m : Sm
/-- leafs: the classes that may come; an: their own classes -/
def hdM (an : Str → List Str) : List Cl → Exn → Sl → Sto → RS
  | [], x, σ, st => .exc x σ st
  | k :: r, x, σ, st => if k.c ∈ an x.cls then (match k.m (σ.set k.i (some (.ins x.cls x.fs))) st with
    | .nx σ' st' => .nx (σ'.set k.i none) st'
    | .rt d st' => .rt d st'
    | .bk σ' st' => .bk (σ'.set k.i none) st'
    | .ct σ' st' => .ct (σ'.set k.i none) st'
    | .exc _ _ _ => .bad
    | .bad => .bad) else hdM an r x σ st
def sTry (an : Str → List Str) (leafs : List Str) (cl : List Cl) (mb : Sm) : Sm := fun σ st => match mb σ st with
  | .exc x σ' st' => if x.cls ∈ leafs then hdM an cl x σ' st' else .bad
  | r => r
def Cl.raw (K : Frag) (k : Cl) : Value × Nat × TS := (.ref (He.ga K k.c), k.i, TSm K k.m W0)
inductive HdsS (X : Cx) : List ExceptHandler → List Cl → Prop
  | nil : HdsS X [] []
  | cons {x n : Str} {i : Nat} {m : Sm} {b₀ : Stmt} {suite : List Stmt} {np pos' : Pos} {hds : List ExceptHandler} {cl : List Cl} (hc : Names X x (.ref (He.ga X.K x))) (hi : X.N[i]? = some n) (hln : X.env.kindOf n = some .local)
      (hsu : ∀ (a : Addr) (pn : List (Addr × Obj)), SSs (X.suite a pn) W0 (b₀ :: suite) m) (r : HdsS X hds cl) :
      HdsS X (.ExceptHandler (some (.Name x np)) (some n) (b₀ :: suite) pos' :: hds) (⟨x, i, m⟩ :: cl)
theorem HdsS.raw {X : Cx} {hds : List ExceptHandler} {cl : List Cl} (h : HdsS X hds cl) : HdsA X hds (cl.map (Cl.raw X.K)) := by
  induction h with
  | nil => exact .nil
  | cons hc hi hln hsu r ih => exact .cons hc hi hln hsu ih
theorem hd_reads {K : Frag} {an : Str → List Str} {D : Ends} {W : WX} {x : Exn} {c : Value} {dd : Option Addr} {σ : Sl} {σV : L2.St} : ∀ {cl : List Cl} {w : Wd}, (∀ k ∈ cl, PySem.W.exmOne K (.ref (He.ga K x.cls)) (.ref (He.ga K k.c)) = some (decide (k.c ∈ an x.cls))) → Ok K w → Slots K w σ σV → RepX K w x c dd →
    PSr K w (hdM an cl x σ w.st) D W → wCl K W D (cl.map (Cl.raw K)) c dd σV w.H
  | [], w, _, ok, sl, rx, p => p c dd σV w.mu w.H (.refl _) ok sl rx
  | k :: r, w, he, ok, sl, rx, p => by
    obtain ⟨rfl, hc, d, fv, rfl, h3, h4, h6, h5⟩ := id rx
    refine ⟨_, he k List.mem_cons_self, fun hb => ?_, fun hb => ?_⟩
    · have hb := of_decide_eq_true hb
      unfold hdM at p
      rw [if_pos hb] at p
      refine ⟨_, _, rfl, rfl, fun a ha => ?_⟩
      have o2 := put_ok (o := xo a (He.ga K x.cls) d) ok ha
      have s2 := put_step (w := w) (o := xo a (He.ga K x.cls) d) ha
      have hda : d ≠ a := fun z => by rw [z, ha] at h3; cases h3
      have rep : Rep K (w.put a (xo a (He.ga K x.cls) d)) (.ref a) (.ins x.cls x.fs) := .exo (dx := d) upd_same (by show upd w.H a _ d = _; rw [upd_ne hda]; exact h3) (put_live ok ha) (s2.live ok (not_none h3) h4) (ok.notOp ha) h6 (h5.step s2 ok) hc
      refine ⟨w.put a (xo a (He.ga K x.cls) d), _, rfl, o2, (sl.step s2 ok).set rep k.i, ?_⟩
      show PSr K _ (k.m (σ.set k.i (some (.ins x.cls x.fs))) w.st) _ _
      cases e : k.m (σ.set k.i (some (.ins x.cls x.fs))) w.st with
      | nx σ' st' =>
        rw [e] at p
        intro σV' mu H s o q
        exact p _ mu H (s2.trans s ok) o (q.del k.i none)
      | rt d' st' =>
        rw [e] at p
        intro v mu H s o q
        exact p v mu H (s2.trans s ok) o q
      | bk σ' st' =>
        rw [e] at p
        intro σV' mu H s o q
        exact p _ mu H (s2.trans s ok) o (q.del k.i none)
      | ct σ' st' =>
        rw [e] at p
        intro σV' mu H s o q
        exact p _ mu H (s2.trans s ok) o (q.del k.i none)
      | exc x' σ' st' => rw [e] at p; exact p.elim
      | bad => rw [e] at p; exact p.elim
    · have hb := of_decide_eq_false hb
      unfold hdM at p
      rw [if_neg hb] at p
      exact hd_reads (fun k' hk => he k' (List.mem_cons_of_mem _ hk)) ok sl rx p
section
variable {X : Cx} {W : WX} {body : List Stmt} {h₀ : ExceptHandler} {hds : List ExceptHandler} {pos : Pos} {mb : Sm} {cl : List Cl} {an : Str → List Str} {leafs : List Str}
theorem ss_try (hN : X.N.Nodup) (tk : Takes X W)
    (hb : ∀ (W' : WX) (pn : List (Addr × Obj)) (xe : Value → Shared → Prop), Takes (X.tr pn xe) W' → PassesOwn (model X.prog X.w) X.A X.env xe → SSs (X.tr pn xe) W' body mb)
    (hh : HdsS X (h₀ :: hds) cl) (hex : ∀ C ∈ leafs, ∀ k ∈ cl, PySem.W.exmOne X.K (.ref (He.ga X.K C)) (.ref (He.ga X.K k.c)) = some (decide (k.c ∈ an C)))
    (hs : X.stack = X.env :: X.outer := by rfl) (hf : X.env.frame = some X.env.locals := by rfl) : SS X W (.Try body (h₀ :: hds) [] [] pos) (sTry an leafs cl mb) :=
  ps_imp (ps_try_cl (tb := fun W' => TSm X.K mb W') hs hf hN tk hb hh.raw) fun D σV H q => by
    obtain ⟨w, σ, rfl, ok, sl, p⟩ := q
    refine ⟨w, σ, rfl, ok, sl, ?_⟩
    unfold sTry at p
    cases e : mb σ w.st with
    | nx σ' st' => rw [e] at p; exact p
    | rt d st' => rw [e] at p; exact p
    | bk σ' st' => rw [e] at p; exact p
    | ct σ' st' => rw [e] at p; exact p
    | bad => rw [e] at p; exact p
    | exc x σ' st' =>
      rw [e] at p
      simp only at p
      by_cases hx : x.cls ∈ leafs
      · rw [if_pos hx] at p
        intro c dd σV' mu H s o q rx
        have p2 := PSr.step s ok p
        exact hd_reads (w := ⟨mu, st', H, w.op⟩) (hex _ hx) o q rx p2
      · rw [if_neg hx] at p; exact p.elim
end
/-! ### a def that is called in a suite, and lets no exception out -/
section
variable {P : Program} {w : World} {K : Frag} {mg : Str → Option Value} {base : Heap}
abbrev E00 : XK := fun _ _ _ => False
abbrev cxF (P : Program) (w : World) (K : Frag) (mg : Str → Option Value) (base : Heap) (N : List Str) (qual : Str) (scope : Scope) (f : Addr) (cdv : Value) (A : Around) (outer : List Env) (s : Shared) (H : Hp) : Cx :=
  { cxOf (CXp P w) P w K mg base N qual scope f cdv A outer s H E00 with calm := false, xe := fun _ _ => False }
structure FnHot (P : Program) (w : World) (K : Frag) (mg : Str → Option Value) (base : Heap) (k : Nat) (f : Addr) (fd : FuncData) (ps : List Str) (sp : Sp) : Prop where
  len : ∀ vs H Q E, sp vs H Q E → vs.length = ps.length
  run : ∀ (A : Around) (outer : List Env) (s : Shared) (H : Hp) (args : Args) (us : List Value) (vs : List V) (Q : VK), L2H.RoomH k A → Env0 P w K mg base A outer s H → BindsTo s fd args (ps.zip us) → Vals vs us → sp vs H Q E00 →
    codeAny (model P w) A (.call (.ref f) args) (CR C8.CX0 outer P w H s Q C8.E0) s
theorem inv_startF {N ps : List Str} {qual : Str} {scope : Scope} {f : Addr} {cd : Value} {A : Around} {outer : List Env} {s s1 : Shared} {H : Hp} {us : List Value} {vs : List V}
    (S : FnScope N ps scope) (e0 : Env0 P w K mg base A outer s H) (hl : vs.length = ps.length) (r : Vals vs us)
    (x : InCallC s s.heap.objs.size (bindL (envOfC qual scope s.heap.objs.size f cd).kindOf (ps.zip us) fun _ => none) (cellsFrom (s.heap.objs.size + 1) scope.names []) (bindC (envOfC qual scope s.heap.objs.size f cd).kindOf (ps.zip us) fun _ => none) s1) :
    Inv (cxF P w K mg base N qual scope f cd A outer s H) [] (L2.start N vs) H s1 := by
  have hpl : ps.length ≤ N.length := by have := congrArg List.length S.pre; rw [List.length_take] at this; omega
  obtain ⟨h1, tk, rfl, hk⟩ := x.done
  have noA : ∀ b : Addr, b ∉ (cxF P w K mg base N qual scope f cd A outer s H).ex := fun b z => absurd (show b ∈ ([] : List Addr) from z) (by simp)
  refine ⟨⟨e0.mod, S.kind, rfl, rfl, Nat.le_refl _, fun y z c h1 h2 => ?_, fun y hy => ?_, fun y c _ h => ?_, (fun z => Bool.noConfusion (show false = true from z)), Around.frames_deeper e0.frames, .inr ⟨rfl, rfl⟩, fun b z => absurd z (noA b), e0.bs, e0.bsz, fun b _ _ => noA b, fun b z => absurd z (noA b), e0.funs, e0.frf⟩,
    rfl, e0.bare, Un.kept hk, ⟨_, x.toInCall.ns, fun i y v h1 h2 h3 => ?_⟩, fun y c h => ⟨_, x.cell y c h⟩, e0.hok.fresh (Nat.le_refl _), fun y c h => ?_, fun q hq => absurd (show q ∈ ([] : List (Addr × Obj)) ++ [] from hq) (by simp), e0.hok.kept hk, ?_⟩
  · exact name_of_addr x.apart (PySem.mem_of_lookup h1) (PySem.mem_of_lookup h2)
  · have hy : scope.names.lookup y = some .cell ∨ scope.names.lookup y = some .free := hy
    rcases hy with hy | hy
    · exact cell_has hy
    · exact absurd rfl (S.nofree _ (PySem.mem_of_lookup hy))
  · exact Nat.le_of_lt (x.above y c (PySem.mem_of_lookup h))
  · have hi : i < vs.length := by
      unfold L2.start at h2
      by_cases hi : i < vs.length
      · exact hi
      · rw [List.getElem?_append_right (by simpa using hi)] at h2
        rw [List.getElem?_replicate] at h2
        split at h2 <;> cases h2
    have ha : vs[i]? = some v := by
      unfold L2.start at h2
      rw [List.getElem?_append_left (by simpa using hi), List.getElem?_map] at h2
      cases e : vs[i]? with
      | none => rw [e] at h2; cases h2
      | some a => rw [e] at h2; cases h2; rfl
    obtain ⟨u, hu, rv⟩ := r.get ha
    have hp : ps[i]? = some y := by
      rw [← S.pre, List.getElem?_take_of_lt (by omega)]; exact h1
    have ndP : ps.Nodup := by rw [← S.pre]; exact S.nd.sublist (List.take_sublist _ _)
    refine ⟨u, rv, ?_⟩
    rcases S.par y (List.mem_of_getElem? hp) with k | k
    · exact .inl ⟨k, bindL_get ndP hp hu k⟩
    · obtain ⟨c, e⟩ := cell_has (n := s.heap.objs.size + 1) k
      refine .inr ⟨.inl k, c, e, ?_⟩
      have q := x.cell y c e
      rw [bindC_get ndP hp hu (by show scope.names.lookup y ≠ _; rw [k]; decide)] at q
      exact q
  · exact e0.hok.fresh (Nat.le_of_lt (x.above y c (PySem.mem_of_lookup h)))
  · unfold L2.start
    show _ = N.length
    rw [List.length_append, List.length_map, List.length_replicate]
    omega
theorem fn_simF {x qual : Str} {params : Arguments} {body : List Stmt} {scope : Scope} {dvs : List V} {kws : List (Str × V)} {f : Addr} {fd : FuncData} {N ps : List Str} {k : Nat} {m : Sm}
    (F : FunD K x qual params body scope dvs kws f fd) (S : FnScope N ps scope)
    (hb : ∀ (cdv : Value) (A : Around) (outer : List Env) (s : Shared) (H : Hp), L2H.RoomH k (A.deeper (envOfC qual scope s.heap.objs.size f cdv)) → SSs (cxF P w K mg base N qual scope f cdv A outer s H) (wOf E00) body m) :
    FnHot P w K mg base (k + 1) f fd ps (spM K ps.length (runDef N.length m)) := by
  obtain ⟨oc, od, dV, kV, doc, pm, an, cdv, ct, osl, rfl, lk, hcd, _, _⟩ := F.ex
  refine ⟨fun vs H Q E h => h.len, fun A outer s H args us vs Q hr e0 hbd r hsp => ?_⟩
  have hl := hsp.len
  have KX : K.In s.heap := e0.mod.kin.keeps fun b o e => (e0.bs b o e).1
  have lim : s.heap.NoLimit := e0.mod.nolimit.keeps fun b o e => (e0.bs b o e).1
  have hkind : ∀ y ∈ ps.zip us, scope.names.lookup y.1 = some .local ∨ (scope.names.lookup y.1 = some .cell ∧ ((cellsFrom (s.heap.objs.size + 1) scope.names []).lookup y.1).isSome = true) := fun ⟨n, v⟩ hy => by
    rcases S.par n (List.of_mem_zip hy).1 with q | q
    · exact .inl q
    · exact .inr ⟨q, PySem.W.cellsFrom_some _ _ _ (.inl q)⟩
  refine codeAny_call_function hr.depth (KX _ _ lk) rfl S.co S.gen rfl (PySem.W.codeRec_of KX hcd) (hbd _ _ _ _ ?_)
  refine wpAny_newFunctionEnv_cells S.kind hkind fun env he s1 x => ?_
  subst he
  refine ⟨lim.keeps x.toInCall.keep, codeAny_func ?_⟩
  have I : Inv (cxF P w K mg base N qual scope f cdv A outer s H) [] (L2.start N vs) H s1 := inv_startF S e0 hl r x
  refine wpAny_mono ((hb cdv A outer s H (hr.deeper _)).run [] s1 (L2.start N vs) H { nx := fun _ H' => Q .non H', rt := Q } I (body_reads hsp)) (fun fl s' hs => ?_) fun e s' hs => hs.elim
  have fin : ∀ {σ' : L2.St} {H' : Hp} {v : V} {u : Value}, Inv (cxF P w K mg base N qual scope f cdv A outer s H) [] σ' H' s' → L2.RelV v u → Q v H' → CE outer P w H s Q u s' :=
    fun {σ' H' v u} J rv q => ⟨v, H', J.os, J.bare, J.base, J.hok, rv, q⟩
  cases fl with
  | ret u =>
    obtain ⟨v, σ', H', J, rv, q⟩ := hs
    exact fin J rv q
  | next =>
    obtain ⟨σ', H', J, q⟩ := hs
    exact fin (v := V.non) (u := Value.none) J rfl q
  | brk =>
    obtain ⟨_, _, _, q⟩ := hs
    exact False.elim q
  | cont =>
    obtain ⟨_, _, _, q⟩ := hs
    exact False.elim q
/-- such a def by its name -/
structure FnH (P : Program) (w : World) (K : Frag) (mg : Str → Option Value) (base : Heap) (x : Str) (k n : Nat) (m : List D → Sto → Res D) : Prop where
  ex : ∃ (fd : FuncData) (ps : List Str), FnHot P w K mg base k (He.ga K x) fd ps (spM K n m) ∧ Binds K fd ps []
  glo : mg x = some (.ref (He.ga K x))
  kp : PySem.W.keepIn K (.ref (He.ga K x)) = true
  len : ∀ ds st, m ds st ≠ .bad → ds.length = n
theorem fnH_name {x qual : Str} {params : Arguments} {body : List Stmt} {scope : Scope} {fd : FuncData} {N ps : List Str} {k : Nat} {m : Sm}
    (F : FunD K x qual params body scope [] [] (He.ga K x) fd) (S : FnScope N ps scope) (hg : mg x = some (.ref (He.ga K x))) (b : Binds K fd ps [])
    (hb : ∀ (cdv : Value) (A : Around) (outer : List Env) (s : Shared) (H : Hp), L2H.RoomH k (A.deeper (envOfC qual scope s.heap.objs.size (He.ga K x) cdv)) → SSs (cxF P w K mg base N qual scope (He.ga K x) cdv A outer s H) (wOf E00) body m) :
    FnH P w K mg base x (k + 1) ps.length (chk ps.length (runDef N.length m)) :=
  ⟨⟨fd, ps, by rw [runDef_chk]; exact fn_simF F S hb, b⟩, hg, F.kp, chk_len⟩
end
section
variable {X : Cx} {W : WX} {j k n : Nat} {x : Str} {p pos : Pos} {e : Expr} {es : List Expr} {ma : Am} {m : List D → Sto → Res D}
theorem PR.noE {K : Frag} {w : Wd} {r : Res D} {Q : VK} {E : XK} (h : PR K (Rep K) w r Q E) (hn : ∀ x st, r ≠ .exc x st) : PR K (Rep K) w r Q E00 := by
  cases r with
  | ok d st => exact h
  | exc x st => exact absurd rfl (hn x st)
  | bad => exact h
def noX (r : Res D) : Res D := match r with
  | .exc _ _ => .bad
  | r => r
def eCallH (m : List D → Sto → Res D) (a : Am) : Em := fun σ st => (a σ st).bind fun as st1 => noX (m as st1)
theorem se_fnH (F : FnH X.prog X.w X.K X.mg X.base x k n m) (hr : L2H.RoomH j X.A) (hk : k ≤ j) (ha : SA X W (e :: es) ma)
    (hg : Gl X x := by rfl) (hdb : (x == ("__debug__" : Str)) = false := by decide) (he : starEach (e :: es) X.env = (false, eval e X.env) :: starEach es X.env := by rfl) (hpl : (backTo pos (starEach es X.env)).any (·.1) = false := by rfl) :
    SE X W (.Call (.Name x p) (e :: es) [] pos) (eCallH m ma) := by
  obtain ⟨fd, ps, G, hb⟩ := F.ex
  refine ⟨fun pins s σV H Q I q => wpAny_Call_Name_kw (ld_glob I hg F.glo ?_ hdb)⟩
  obtain ⟨w, σ, rfl, ok, sl, pr⟩ := q
  refine PySem.W.callWith_K (h₀ := X.base) I.ok.mod.kin F.kp (thn (ha.run pos pins s σV _ (fun vs H2 => spM X.K n m vs H2 Q E00) I ?_) fun us s1 ⟨vs, H1, I1, r, q1⟩ => ⟨I1.kIn, ?_⟩) he hpl
  · refine ⟨w, σ, rfl, ok, sl, PR.bind ok pr fun as st vs mu H1 e1 s1 ok1 r1 p1 => ?_⟩
    refine ⟨⟨mu, st, H1, w.op⟩, as, rfl, ok1, r1, F.len _ _ (fun z => by rw [z] at p1; exact p1), ?_⟩
    show PR _ _ _ (m as st) _ _
    cases z : m as st with
    | ok d st2 => rw [z] at p1; exact p1
    | exc x st2 => rw [z] at p1; exact p1.elim
    | bad => rw [z] at p1; exact p1.elim
  · have hl : us.length = ps.length := by rw [← r.length]; exact G.len _ _ _ _ q1
    have b := hb s1 us I1.kIn (by rw [List.append_nil]; exact hl)
    rw [List.append_nil] at b
    refine wpAny_call (codeAny_mono (G.run X.A X.stack s1 H1 ⟨us, []⟩ us vs Q ⟨by have := hr.dp; omega, by have := hr.un; omega⟩ I1.env0 b r q1) ?_)
    rintro (er | fl) s' hq
    · exact hq.elim
    · cases fl <;> first | exact I1.after hq | exact False.elim hq
end
end Sim

set_option Elab.async false
set_option linter.all false
set_option maxRecDepth 100000
set_option maxHeartbeats 4000000
/-! lambdas without parameters, or with one that has a number as its default: handed to a def that calls them -/
namespace Sim
open PySem PySem.Spec PyProof.Rows L2
open LamX (CodeO TabS Tabs TabB ExtN lamEnv lamCx codeO_ne among_app inv_table)
abbrev lamN : Str := "<lambda>"
abbrev klaD (qual : Str) (params : Arguments) (body : Expr) (scope : Scope) (cl : List (Str × Addr)) (pm cdv ct dV : Value) : FuncData := { PySem.W.kla_fn lamN qual params body scope cl pm cdv ct with defaults := dV }
abbrev klaO (qual : Str) (params : Arguments) (body : Expr) (scope : Scope) (cl : List (Str × Addr)) (pm : Value) (c' : Addr) (ct dV : Value) : Obj := { cls := .type "function", data := .func (klaD qual params body scope cl pm (.ref c') ct dV) }
section
variable {M : Model} {A : Around} {E : Value → Shared → Prop} {s : Shared} {qual : Str} {params : Arguments} {body : Expr} {scope : Scope} {env : Env} {c P : Addr} {ps : Array Value} {pos : Pos} {firstLine : Nat} {mg : Str → Option Value}
  {clos : List (Str × Addr)} {Q : Value → Shared → Prop} {dV : Value}
theorem tail_new (hcl : closureFor scope env = pure clos) (hge0 : env.globals = mainGlobals) (hg : s.heap.Ns mainGlobals mg) (hcode : env.code = .ref c) (C : PySem.W.CodeHd s.heap c P) (hP : s.heap.get? P = some (PySem.W.tabObj ps)) (ht : TriplesOk ps.toList)
    (hnf : codeAmong pos ps.toList = none) (hgP : mainGlobals ≠ P) (hb : s.heap.BuiltinsAt mg P)
    (h : ∀ c' ctv h' tk, Heap.ExtBut P s.heap h' → s.heap.objs.size ≤ c' → c' < h'.objs.size → h'.CodeRec (.ref c') qual → h'.get? P = some (PySem.W.tabObj (ps ++ #[rawInt pos.line, rawInt pos.col, .ref c'])) →
      Q (.ref h'.objs.size) { s with heap := h'.push (klaO qual params body scope clos ((mg "__name__").getD .none) c' ctv dV), toks := tk }) :
    wpAny M A (makeTail lamN qual params (.expr body) scope env dV .none none pos firstLine) Q E s := by
  obtain ⟨bm, ob, hbm, hne0, _, hneP, hbo, hcls, hdict, hdata⟩ := hb
  unfold makeTail
  rw [hcl, hge0]
  refine wpAny_bind (wpAny_pure ?_)
  cases clos with
  | nil =>
    simp only [List.isEmpty_nil, if_true]
    refine wpAny_bind (wpAny_pure ?_)
    refine wpAny_bind (wpAny_functionCodeX hcode (C.code hP ht) (C.tab hP) hnf fun c' h' tk hx hge hlt _ hrec htb _ => ?_)
    have hg' := hg.extBut hx hgP
    refine wpAny_bind (wpAny_builtinsFor hg' hbm hne0 (hx _ _ hneP hbo) hcls hdict hdata ?_)
    refine wpAny_bind (wpAny_nsGet hg' ?_)
    exact wpAny_bind (wpAny_pure (wpAny_newObj_type (h c' .none h' tk hx hge hlt hrec htb.2) (by size_fits)))
  | cons q r =>
    simp only [List.isEmpty_cons, Bool.false_eq_true, if_false]
    refine wpAny_bind (wpAny_newTextTuple ?_)
    refine wpAny_bind (wpAny_functionCodeX hcode ((C.keeps fun b o e => Heap.get?_push_of_some _ e).code (Heap.get?_push_of_some _ hP) ht) ((C.keeps fun b o e => Heap.get?_push_of_some _ e).tab (Heap.get?_push_of_some _ hP)) hnf fun c' h' tk hx hge hlt _ hrec htb _ => ?_)
    have hg' := (hg.push _).extBut hx hgP
    have hx' : Heap.ExtBut P s.heap h' := fun b o hb' e => hx b o hb' (Heap.get?_push_of_some _ e)
    have hge' : s.heap.objs.size ≤ c' := Nat.le_trans (by rw [Heap.size_push]; omega) hge
    refine wpAny_bind (wpAny_builtinsFor hg' hbm hne0 (hx' _ _ hneP hbo) hcls hdict hdata ?_)
    refine wpAny_bind (wpAny_nsGet hg' ?_)
    exact wpAny_bind (wpAny_pure (wpAny_newObj_type (h c' _ h' tk hx' hge' hlt hrec htb.2) (by size_fits)))
theorem tail_hit {cv : Value} (hcl : closureFor scope env = pure clos) (hge0 : env.globals = mainGlobals) (hg : s.heap.Ns mainGlobals mg) (hcode : env.code = .ref c) (C : PySem.W.CodeHd s.heap c P) (hP : s.heap.get? P = some (PySem.W.tabObj ps)) (ht : TriplesOk ps.toList)
    (hf : codeAmong pos ps.toList = some cv) (hb : s.heap.BuiltinsAt mg P)
    (h : ∀ (ctv : Value) (h' : Heap) (tk : Tok), (∀ b o, s.heap.get? b = some o → h'.get? b = some o) → s.heap.objs.size ≤ h'.objs.size →
      Q (.ref h'.objs.size) { s with heap := h'.push { cls := .type "function", data := .func (klaD qual params body scope clos ((mg "__name__").getD .none) cv ctv dV) }, toks := tk }) :
    wpAny M A (makeTail lamN qual params (.expr body) scope env dV .none none pos firstLine) Q E s := by
  obtain ⟨bm, ob, hbm, hne0, _, hneP, hbo, hcls, hdict, hdata⟩ := hb
  unfold makeTail
  rw [hcl, hge0]
  refine wpAny_bind (wpAny_pure ?_)
  cases clos with
  | nil =>
    simp only [List.isEmpty_nil, if_true]
    refine wpAny_bind (wpAny_pure ?_)
    refine wpAny_bind (wpAny_functionCode_hit hcode (C.code hP ht) hf ?_)
    refine wpAny_bind (wpAny_builtinsFor hg hbm hne0 hbo hcls hdict hdata ?_)
    refine wpAny_bind (wpAny_nsGet hg ?_)
    exact wpAny_bind (wpAny_pure (wpAny_newObj_type (h .none s.heap s.toks (fun _ _ e => e) (Nat.le_refl _)) (by size_fits)))
  | cons q r =>
    simp only [List.isEmpty_cons, Bool.false_eq_true, if_false]
    refine wpAny_bind (wpAny_newTextTuple ?_)
    refine wpAny_bind (wpAny_functionCode_hit hcode ((C.keeps fun b o e => Heap.get?_push_of_some _ e).code (Heap.get?_push_of_some _ hP) ht) hf ?_)
    refine wpAny_bind (wpAny_builtinsFor (hg.push _) hbm hne0 (Heap.get?_push_of_some _ hbo) hcls hdict hdata ?_)
    refine wpAny_bind (wpAny_nsGet (hg.push _) ?_)
    have hsz : ∀ oT : Obj, s.heap.objs.size ≤ (s.heap.push oT).objs.size := fun oT => by rw [Heap.size_push]; omega
    exact wpAny_bind (wpAny_pure (wpAny_newObj_type (h _ _ s.toks (fun b o e => Heap.get?_push_of_some _ e) (hsz _)) (by size_fits)))
end
/-- what is kept where a lambda is made -/
structure Kept (H H' : Hp) : Prop where
  k : ∀ b o, H b = some o → (∀ ps, o ≠ .tbl ps) → H' b = some o
  n : ∀ b, H b ≠ none → H' b ≠ none
section
variable {X : Cx} {pins : List (Addr × Obj)} {σ : L2.St} {H : Hp} {s : Shared}
theorem lam_tail {T : List (Addr × Str)} {c P : Addr} {params : Arguments} {body : Expr} {scope : Scope} {pos : Pos} {dV : Value} {E : Value → Shared → Prop} {Q : Value → Shared → Prop} (I : Inv X pins σ H s) (TB : TabB X.base X.mg c P) (hcode : X.env.code = .ref c)
    (hm : (P, X.env.qual ++ lamN) ∈ T) (hu : ∀ p ∈ T, p.1 = P → p.2 = X.env.qual ++ lamN) (hT : Tabs T H) (hfree : ∀ y ∈ scope.names, y.2 = .free → ∃ c, X.env.cells.lookup y.1 = some c)
    (h : ∀ (f c' : Addr) (pm ctv : Value) (H1 : Hp) (s' : Shared), Inv X pins σ H1 s' → Kept H H1 → Tabs T H1 →
      s'.heap.get? f = some (klaO (X.env.qual ++ lamN) params body scope (cloFrom X.env.cells scope.names []) pm c' ctv dV) → H1 f = none → f ∉ frs X.stack → H1 c' = some (CodeO c' (X.env.qual ++ lamN)) →
      (∀ b o, s.heap.get? b = some o → H b = none → s'.heap.get? b = some o ∧ H1 b = none) → Q (.ref f) s') :
    wpAny (model X.prog X.w) X.A (makeTail lamN (X.env.qual ++ lamN) params (.expr body) scope X.env dV .none none pos pos.line) Q E s := by
  obtain ⟨ps, hP, ht, ha⟩ := hT _ hm
  have bP : s.heap.BuiltinsAt X.mg P := TB.bm.keeps I.bk
  have hP' : s.heap.get? P = some { cls := .none, data := .fields ps } := I.hok P _ hP
  have nofr : ∀ f, s.heap.objs.size ≤ f → f ∉ frs X.stack := fun f hf z => by
    rcases List.mem_cons.mp (I.stkSub _ z) with e | e
    · have h1 := I.lt
      rw [← e] at h1
      exact Nat.lt_irrefl _ (Nat.lt_of_lt_of_le h1 hf)
    · exact I.nofs hf e
  cases hc : codeAmong pos ps.toList with
  | none =>
    refine tail_new (mg := X.mg) (c := c) (P := P) (ps := ps) (closure_ok hfree) I.ok.glob (I.mod.glob.keeps I.bk) hcode (TB.code.keeps I.bk) hP' ht hc TB.gP bP fun c' ctv h' tk hx hge hlt hrec htb => ?_
    obtain ⟨c2, oc, vs, t, e2, hoc, hd, hv⟩ := hrec
    cases e2
    have hsz : s.heap.objs.size ≤ h'.objs.size := Nat.le_trans hge (Nat.le_of_lt hlt)
    have nC : H c' = none := I.hok.fresh hge
    have I1 := inv_table (t' := tk) (more := #[rawInt pos.line, rawInt pos.col, .ref c']) (h' := h'.push (klaO (X.env.qual ++ lamN) params body scope (cloFrom X.env.cells scope.names []) ((X.mg "__name__").getD .none) c' ctv dV)) I hP
      (fun b o hb e => Heap.get?_push_of_some _ (hx b o hb e)) (Heap.get?_push_of_some _ htb) hge ⟨oc, vs, t, Heap.get?_push_of_some _ hoc, hd, hv⟩
    have hE : Kept H (upd (upd H P (.tbl (ps ++ #[rawInt pos.line, rawInt pos.col, .ref c']))) c' (CodeO c' (X.env.qual ++ lamN))) := ⟨fun b o e n => by
      rw [upd_ne (ne_of_none e nC), upd_ne (fun z => n ps (Option.some.inj (e.symm.trans (by rw [z]; exact hP))))]
      exact e, fun b e => by
      by_cases h1 : b = c'
      · rw [h1, upd_same]; simp
      · rw [upd_ne h1]
        by_cases h2 : b = P
        · rw [h2, upd_same]; simp
        · rw [upd_ne h2]; exact e⟩
    have eL : (ps ++ #[rawInt pos.line, rawInt pos.col, .ref c']).toList = ps.toList ++ [rawInt pos.line, rawInt pos.col, .ref c'] := by simp
    refine h h'.objs.size c' ((X.mg "__name__").getD .none) ctv _ _ I1 hE (fun p hp => ?_) (Heap.get?_push_size _ rfl) ?_ (nofr _ hsz) upd_same fun b o e n => ⟨?_, ?_⟩
    · by_cases hb : p.1 = P
      · rw [hu p hp hb, hb]
        refine ⟨_, by rw [upd_ne (ne_of_none hP nC), upd_same], by rw [eL]; exact PySem.TriplesOk_snoc _ _ _ _ ht, fun p' cv hcv => ?_⟩
        rw [eL] at hcv
        rcases among_app _ ht hcv with z | z
        · obtain ⟨c0, e1, e2⟩ := ha p' cv z
          exact ⟨c0, e1, hE.k _ _ e2 codeO_ne⟩
        · exact ⟨c', z, upd_same⟩
      · obtain ⟨ps', a1, a2, a3⟩ := hT p hp
        refine ⟨ps', by rw [upd_ne (ne_of_none a1 nC), upd_ne hb]; exact a1, a2, fun p' cv hcv => ?_⟩
        obtain ⟨c0, e1, e2⟩ := a3 p' cv hcv
        exact ⟨c0, e1, hE.k _ _ e2 codeO_ne⟩
    · have n1 : h'.objs.size ≠ c' := Nat.ne_of_gt hlt
      have n2 : h'.objs.size ≠ P := Nat.ne_of_gt (Nat.lt_of_lt_of_le (Heap.lt_size hP') hsz)
      rw [upd_ne n1, upd_ne n2]
      exact I.hok.fresh hsz
    · exact Heap.get?_push_of_some _ (hx b o (fun z => by rw [z, hP] at n; cases n) e)
    · have h1 : b ≠ c' := Nat.ne_of_lt (Nat.lt_of_lt_of_le (Heap.lt_size e) hge)
      have h2 : b ≠ P := fun z => by rw [z, hP] at n; cases n
      rw [upd_ne h1, upd_ne h2]
      exact n
  | some cv =>
    obtain ⟨c', e, hco⟩ := ha pos cv hc
    subst e
    refine tail_hit (mg := X.mg) (c := c) (P := P) (ps := ps) (closure_ok hfree) I.ok.glob (I.mod.glob.keeps I.bk) hcode (TB.code.keeps I.bk) hP' ht hc bP fun ctv h' tk hx hsz => ?_
    have I1 : Inv X pins σ H { s with heap := h'.push (klaO (X.env.qual ++ lamN) params body scope (cloFrom X.env.cells scope.names []) ((X.mg "__name__").getD .none) c' ctv dV), toks := tk } := I.kept fun b o e => Heap.get?_push_of_some _ (hx b o e)
    exact h h'.objs.size c' ((X.mg "__name__").getD .none) ctv H _ I1 ⟨fun _ _ e _ => e, fun _ e => e⟩ hT (Heap.get?_push_size _ rfl) (I.hok.fresh hsz) (nofr _ hsz) hco fun b o e n => ⟨Heap.get?_push_of_some _ (hx b o e), n⟩
/-- how the lambda's names are bound when it is called with nothing: at every later state -/
def BindLater (X : Cx) (s : Shared) (H : Hp) (fd : FuncData) (bs : List (Str × Value)) : Prop := ∀ s1 : Shared, (∀ b o, s.heap.get? b = some o → H b = none → b ∉ frs X.stack → s1.heap.get? b = some o) → BindsTo s1 fd ⟨[], []⟩ bs
/-- the two kinds of lambdas -/
inductive LamK (X : Cx) (params : Arguments) (body : Expr) (scope : Scope) : List Str → Prop
  | none (hd : defaultsOf params X.env = ([], [])) (hb : ∀ (q : Str) (cl : List (Str × Addr)) (pm cv ctv : Value), bindArgs (klaD q params body scope cl pm cv ctv .none) ⟨[], []⟩ = pure []) : LamK X params body scope []
  | one {y : Str} {i : Int} {j : Nat} {cpos : Pos} (hd : defaultsOf params X.env = ([eval (.Constant (.int i) j cpos) X.env], []))
      (hb : ∀ (q : Str) (cl : List (Str × Addr)) (pm cv ctv v : Value) (T : Addr), ∃ k, bindArgs (klaD q params body scope cl pm cv ctv (.ref T)) ⟨[], []⟩ = seqItems? (.ref T) >>= k ∧ k (some #[v]) = pure [(y, v)]) : LamK X params body scope [y]
theorem lam_make {T : List (Addr × Str)} {c P : Addr} {params : Arguments} {body : Expr} {scope : Scope} {pos : Pos} {ys : List Str} {Q : Value → Shared → Prop} (LK : LamK X params body scope ys) (I : Inv X pins σ H s) (TB : TabB X.base X.mg c P) (hcode : X.env.code = .ref c)
    (hm : (P, X.env.qual ++ lamN) ∈ T) (hu : ∀ p ∈ T, p.1 = P → p.2 = X.env.qual ++ lamN) (hT : Tabs T H) (hfree : ∀ y ∈ scope.names, y.2 = .free → ∃ c, X.env.cells.lookup y.1 = some c)
    (h : ∀ (f c' : Addr) (pm ctv dV : Value) (bs : List (Str × Value)) (H1 : Hp) (s' : Shared), Inv X pins σ H1 s' → Kept H H1 → Tabs T H1 → bs.map (·.1) = ys → BindLater X s' H1 (klaD (X.env.qual ++ lamN) params body scope (cloFrom X.env.cells scope.names []) pm (.ref c') ctv dV) bs →
      s'.heap.get? f = some (klaO (X.env.qual ++ lamN) params body scope (cloFrom X.env.cells scope.names []) pm c' ctv dV) → H1 f = none → f ∉ frs X.stack → H1 c' = some (CodeO c' (X.env.qual ++ lamN)) → Q (.ref f) s') :
    wpAny (model X.prog X.w) X.A (eval (.Lambda params body scope pos) X.env) Q X.xe s := by
  cases LK with
  | none hd hb =>
    rw [arm_eval_Lambda, hd]
    show wpAny _ _ (do let dv ← evalAll []; let kdv ← holding dv (evalAllOpt []); makeFunction lamN (X.env.qual ++ lamN) params (.expr body) scope X.env dv kdv [] pos pos.line) Q _ s
    refine wpAny_bind (wpAny_pure (wpAny_bind (wpAny_holding (wpAny_pure ?_))))
    rw [makeFunction_eq]
    simp only [List.zip_nil_right, List.filterMap_nil, List.isEmpty_nil, if_true, pure_bind]
    exact lam_tail I TB hcode hm hu hT hfree fun f c' pm ctv H1 s' I1 k t e1 e2 e3 e4 _ => h f c' pm ctv .none [] H1 s' I1 k t rfl (fun s1 _ => .of_eq (hb _ _ _ _ _)) e1 e2 e3 e4
  | @one y i j cpos hd hb =>
    rw [arm_eval_Lambda, hd]
    show wpAny _ _ (do let dv ← evalAll [eval (.Constant (.int i) j cpos) X.env]; let kdv ← holding dv (evalAllOpt []); makeFunction lamN (X.env.qual ++ lamN) params (.expr body) scope X.env dv kdv [] pos pos.line) Q _ s
    refine wpAny_bind ?_
    show wpAny _ _ (do let v ← eval (.Constant (.int i) j cpos) X.env; return v :: (← holding [v] (evalAll []))) _ _ s
    refine wpAny_bind (thn ((pe_int (X := X) (i := i) (j := j) (pos := cpos)).run pins s σ H (fun v H1 => v = .int i ∧ H1 = H) I ⟨rfl, rfl⟩) fun u s1 ⟨v, H1, I1, rv, ev, eH⟩ => ?_)
    subst ev eH
    refine wpAny_bind (wpAny_holding (wpAny_pure (wpAny_pure ?_)))
    refine wpAny_bind (wpAny_holding (wpAny_pure ?_))
    rw [makeFunction_eq]
    simp only [List.zip_nil_right, List.filterMap_nil, List.isEmpty_cons, List.isEmpty_nil, Bool.false_eq_true, if_false, if_true, pure_bind]
    refine wpAny_bind (wpAny_newTextTuple ?_)
    have I2 : Inv X pins σ H1 { s1 with heap := s1.heap.push { cls := .type "tuple", data := .seq [u].toArray } } := I1.kept (t' := s1.toks) fun b o e => Heap.get?_push_of_some _ e
    have nT : H1 s1.heap.objs.size = none := I1.hok.fresh (Nat.le_refl _)
    have oT : (s1.heap.push { cls := .type "tuple", data := .seq [u].toArray }).get? s1.heap.objs.size = some { cls := .type "tuple", data := .seq [u].toArray } := Heap.get?_push_size _ rfl
    have fT : s1.heap.objs.size ∉ frs X.stack := fun z => by
      rcases List.mem_cons.mp (I1.stkSub _ z) with e | e
      · have h1 := I1.lt
        rw [← e] at h1
        exact Nat.lt_irrefl _ h1
      · exact I1.nofs (Nat.le_refl _) e
    refine lam_tail I2 TB hcode hm hu hT hfree fun f c' pm ctv H2 s' I3 k t e1 e2 e3 e4 kp => ?_
    obtain ⟨oT2, nT2⟩ := kp _ _ oT nT
    refine h f c' pm ctv (.ref s1.heap.objs.size) [(y, u)] H2 s' I3 k t rfl (fun s4 hk => ?_) e1 e2 e3 e4
    have oT4 := hk _ _ oT2 nT2 fT
    obtain ⟨kk, q1, q2⟩ := hb (X.env.qual ++ lamN) (cloFrom X.env.cells scope.names []) pm (.ref c') ctv u s1.heap.objs.size
    refine BindsTo.of_looks fun M => ?_
    rw [q1]
    let K' : Frag := [(s1.heap.objs.size, { cls := .type "tuple", data := .seq [u].toArray })]
    have inK : K'.In s4.heap := fun b o e => by
      have e : List.lookup b [(s1.heap.objs.size, ({ cls := .type "tuple", data := .seq [u].toArray } : Obj))] = some o := e
      rw [List.lookup_cons] at e
      cases hb : b == s1.heap.objs.size with
      | true =>
        rw [hb] at e
        rw [eq_of_beq hb]
        cases e
        exact oT4
      | false => rw [hb] at e; cases e
    have lk : K'.lookup s1.heap.objs.size = some { cls := .type "tuple", data := .seq [u].toArray } := by
      show List.lookup _ _ = _
      rw [List.lookup_cons, beq_self_eq_true]
    exact looks_items inK lk rfl (.of_pure q2)
end
end Sim

set_option Elab.async false
set_option linter.all false
set_option maxRecDepth 100000
set_option maxHeartbeats 4000000
/-! x(lambda: e), x a def that calls what it got, in a try -/
namespace Sim
open PySem PySem.Spec PyProof.Rows L2
open LamX (CodeO TabS Tabs TabB ExtN lamEnv lamCx codeO_ne)
/-- the lambda's names: captured ones, globals, its own parameters ys, which are no names of the maker -/
structure LamS3 (N : List Str) (sc scope : Scope) (ys : List Str) : Prop where
  kind : scope.kind = .function
  co : scope.isCoroutine = false
  gen : scope.isGenerator = false
  own : ∀ y ∈ scope.names, y.2 ≠ .cell ∧ (y.2 = .local → y.1 ∈ ys)
  loc : ∀ y ∈ ys, scope.names.lookup y = some .local
  nin : ∀ y ∈ ys, y ∉ N
  free : ∀ y ∈ scope.names, y.2 = .free → sc.names.lookup y.1 = some .cell ∨ sc.names.lookup y.1 = some .free
def lamSB3 (N : List Str) (sc scope : Scope) (ys : List Str) : Bool :=
  decide (scope.kind = .function) && (!scope.isCoroutine && (!scope.isGenerator && ((scope.names.all fun y => !decide (y.2 = .cell) && (!decide (y.2 = .local) || decide (y.1 ∈ ys))) && ((ys.all fun y => decide (scope.names.lookup y = some .local)) && ((ys.all fun y => !decide (y ∈ N)) &&
  scope.names.all fun y => !decide (y.2 = .free) || (decide (sc.names.lookup y.1 = some .cell) || decide (sc.names.lookup y.1 = some .free)))))))
theorem lamS3_by {N : List Str} {sc scope : Scope} {ys : List Str} (h : lamSB3 N sc scope ys = true) : LamS3 N sc scope ys := by
  unfold lamSB3 at h
  simp only [Bool.and_eq_true, Bool.or_eq_true, Bool.not_eq_true', decide_eq_true_eq, decide_eq_false_iff_not, List.all_eq_true] at h
  obtain ⟨h1, h2, h3, h4, h5, h6, h7⟩ := h
  refine ⟨h1, h2, h3, fun y hy => ⟨(h4 y hy).1, fun e => ?_⟩, h5, h6, fun y hy e => ?_⟩
  · rcases (h4 y hy).2 with z | z
    · exact absurd e z
    · exact z
  · rcases h7 y hy with z | z
    · exact absurd e z
    · exact z
theorem LamS3.has {X : Cx} {scope : Scope} {ys : List Str} (L : LamS3 X.N X.env.scope scope ys) (ok : X.Ok) : ∀ y ∈ scope.names, y.2 = .free → ∃ c, X.env.cells.lookup y.1 = some c := fun y hy e => by
  rcases L.free y hy e with k | k
  · exact ok.has _ (.inl k)
  · exact ok.has _ (.inr k)
section
variable {X : Cx} {pins : List (Addr × Obj)} {σ : L2.St} {H HZ : Hp} {s s1 : Shared}
theorem lam_start3 {A : Around} {outer : List Env} {E : XK} {scope : Scope} {ys : List Str} {bs : List (Str × Value)} {f c' : Addr} {h₁ : Heap} {tk : Nat} (I : Inv X pins σ H s) (L : LamS3 X.N X.env.scope scope ys) (e0 : Env0 X.prog X.w X.K X.mg X.base A outer s1 HZ) (hd : A.handled = none)
    (un : Un (frs X.stack) [] H HZ s.heap s1.heap) (hns : h₁.Ns s1.heap.objs.size fun y => bs.reverse.lookup y) (kp : ∀ b o, s1.heap.get? b = some o → h₁.get? b = some o) :
    Inv (lamCx X A outer s1 HZ E scope f c') [] σ HZ { s1 with heap := h₁, toks := tk } := by
  have hfree := L.has I.ok
  have cm : ∀ {y c}, (cloFrom X.env.cells scope.names []).lookup y = some c → X.env.cells.lookup y = some c := fun {y c} e => by
    rcases cloFrom_mem (PySem.mem_of_lookup e) with hm | ⟨h1, h2⟩
    · cases hm
    · obtain ⟨c1, hc⟩ := hfree _ h1 rfl
      have hc : X.env.cells.lookup y = some c1 := hc
      have e2 : c = c1 := by
        rw [h2, hc] <;> rfl
      rw [e2]
      exact hc
  have look : ∀ {y}, scope.names.lookup y = some .free → ∃ c, (cloFrom X.env.cells scope.names []).lookup y = some c := fun {y} hl => by
    have hy : (y, NameKind.free) ∈ scope.names := PySem.mem_of_lookup hl
    exact mem_lookup (cloFrom_has (cells := X.env.cells) (acc := []) hy)
  have cellK : ∀ {c : Addr} {v : Option Value}, H c = none → s.heap.IsCell c v → h₁.IsCell c v := fun {c v} n ⟨o, ho, hd⟩ => by
    obtain ⟨sl, q⟩ := un.any ho n (by simp)
    exact ⟨_, kp _ _ q, hd⟩
  have noA : ∀ b : Addr, b ∉ (lamCx X A outer s1 HZ E scope f c').ex := fun b z => absurd (show b ∈ ([] : List Addr) from z) (by simp)
  refine ⟨⟨e0.mod, L.kind, rfl, rfl, Nat.le_refl _, fun y z c e1 e2 => I.ok.inj y z c (cm e1) (cm e2), fun y hy => ?_, fun y c z _ => ?_, fun _ => hd, Around.frames_deeper e0.frames, .inr ⟨rfl, rfl⟩, fun b z => absurd z (noA b), e0.bs, e0.bsz, fun b _ _ => noA b,
      fun b z => absurd z (noA b), e0.funs, e0.frf⟩,
    rfl, e0.bare, Un.kept kp, ⟨_, hns, fun i y v e1 e2 e3 => ?_⟩, fun y c e => ?_, e0.hok.fresh (Nat.le_refl _), fun y c e => ?_, fun q hq => absurd (show q ∈ ([] : List (Addr × Obj)) ++ [] from hq) (by simp), e0.hok.kept kp, I.len⟩
  · have hy : scope.names.lookup y = some .cell ∨ scope.names.lookup y = some .free := hy
    rcases hy with hy | hy
    · exact absurd rfl (L.own _ (PySem.mem_of_lookup hy)).1
    · exact look hy
  · have z : false = true := z
    cases z
  · have e3 : Vis scope y := e3
    rcases e3 with k | k | k
    · exact absurd (List.mem_of_getElem? e1) (L.nin y ((L.own _ (PySem.mem_of_lookup k)).2 rfl))
    · exact absurd rfl (L.own _ (PySem.mem_of_lookup k)).1
    · obtain ⟨m, hn, hl⟩ := I.loc
      have hvis : Vis X.env.scope y := (L.free _ (PySem.mem_of_lookup k) rfl).elim (fun k => .inr (.inl k)) (fun k => .inr (.inr k))
      obtain ⟨w', r, q⟩ := hl i y v e1 e2 hvis
      obtain ⟨c2, h2⟩ := look k
      refine ⟨w', r, .inr ⟨.inr k, c2, h2, ?_⟩⟩
      have c1 := cm h2
      rcases q with ⟨k', _⟩ | ⟨_, c3, e', z⟩
      · have k' : X.env.scope.names.lookup y = some .local := k'
        rcases L.free _ (PySem.mem_of_lookup k) rfl with k2 | k2 <;> rw [show X.env.scope.names.lookup y = _ from k2] at k' <;> cases k'
      · rw [c1] at e'
        cases e'
        exact cellK (I.freeC y _ c1) z
  · obtain ⟨w', z⟩ := I.cell y c (cm e)
    exact ⟨w', cellK (I.freeC y c (cm e)) z⟩
  · obtain ⟨v, o, ho, hd⟩ := I.cell y c (cm e)
    exact un.free c o ho (I.freeC y c (cm e)) (by simp)
/-- a(), in the def that got the lambda -/
theorem pe_act3 {CXg : CXT} {Eg : XK} {Ng : List Str} {qg : Str} {sg : Scope} {g f c' : Addr} {cdg pm ctv dV : Value} {params : Arguments} {body : Expr} {scope : Scope} {ys : List Str} {bs : List (Str × Value)} {k i : Nat} {a : Str} {pn : List (Addr × Obj)} {xe : Value → Shared → Prop} {W : WX} {E : XK} {tb : TE} {p1 p2 : Pos}
    (I : Inv X pins σ H s) (L : LamS3 X.N X.env.scope scope ys) (hf : s.heap.get? f = some (klaO (X.env.qual ++ lamN) params body scope (cloFrom X.env.cells scope.names []) pm c' ctv dV)) (hfn : H f = none) (hfr : f ∉ frs X.stack)
    (hys : bs.map (·.1) = ys) (hbind : BindLater X s H (klaD (X.env.qual ++ lamN) params body scope (cloFrom X.env.cells scope.names []) pm (.ref c') ctv dV) bs)
    (tk : Takes ((cxOf CXg X.prog X.w X.K X.mg X.base Ng qg sg g cdg X.A X.stack s H Eg).tr pn xe) W) (hW : ∀ cls d σ' H', E cls d H' → W cls d σ' H') (hr : Room (k + 1) (X.A.deeper (envOfC qg sg s.heap.objs.size g cdg)))
    (hbody : ∀ (A : Around) (outer : List Env) (s : Shared) (H : Hp), Room k (A.deeper (lamEnv X scope s.heap.objs.size f c')) → PE (lamCx X A outer s H E scope f c') body tb)
    (hN : Ng[i]? = some a) (hv : Vis sg a) (hd : (a == ("__debug__" : Str)) = false := by decide) (hcd : (a == ("__classdict__" : Str)) = false := by decide) :
    PE ((cxOf CXg X.prog X.w X.K X.mg X.base Ng qg sg g cdg X.A X.stack s H Eg).tr pn xe) (.Call (.Name a p1) [] [] p2)
      (fun σZ HZ Q => σZ[i]? = some (some (.ref f)) ∧ HZ c' = some (CodeO c' (X.env.qual ++ lamN)) ∧ tb σ HZ Q) := by
  refine ⟨fun pinsZ sZ σZ HZ Q IZ h => ?_⟩
  obtain ⟨hs, hc, ht⟩ := h
  refine wpAny_Call_Name_kw (thn ((pe_var (pos := p1) (i := i) hN hv hd hcd).run pinsZ sZ σZ HZ (fun v H1 => v = .ref f ∧ H1 = HZ) IZ ⟨.ref f, hs, rfl, rfl⟩) fun u s1 ⟨v, H1, I1, r1, q1⟩ => ?_)
  obtain ⟨ev, eH⟩ := q1
  subst ev
  rw [eH] at I1
  obtain rfl : u = Value.ref f := r1
  have kpo : ∀ b o, s.heap.get? b = some o → H b = none → b ∉ frs X.stack → s1.heap.get? b = some o := fun b o e n hb => I1.base.keep b o e n hb (fun z => nomatch (show b ∈ ([] : List Addr) from z))
  have of1 : s1.heap.get? f = some (klaO (X.env.qual ++ lamN) params body scope (cloFrom X.env.cells scope.names []) pm c' ctv dV) := kpo f _ hf hfn hfr
  refine PySem.W.callWith_F0 ⟨_, _, _, _, of1⟩ ?_
  have un : Un (frs X.stack) [] H HZ s.heap s1.heap := I1.base
  obtain ⟨⟨oc, vs, t, hoc, hdc, hvc⟩, _, _⟩ := I1.hok c' _ hc
  have rc : codeAny (model X.prog X.w) (X.A.deeper (envOfC qg sg s.heap.objs.size g cdg)) (.call (.ref f) ⟨[], []⟩) (CR (L2.CX X.prog X.w) (envOfC qg sg s.heap.objs.size g cdg :: X.stack) X.prog X.w HZ s1 Q E) s1 := by
    refine PySem.W.kla_callFunE hr.depth of1 rfl L.co L.gen rfl ⟨c', oc, vs, t, rfl, hoc, hdc, hvc⟩ ?_
    refine hbind s1 kpo _ _ _ _ ?_
    refine wpAny_newFunctionEnv (fun y hy => (L.own y hy).1) (fun y hy => L.loc _ (by rw [← hys]; exact List.mem_map_of_mem hy)) (fun h₁ hns hsb => ⟨I1.nolimit.fresh _ hsb, ?_⟩) L.kind
    show codeAny _ _ (.expr body (lamEnv X scope s1.heap.objs.size f c')) _ _
    have kp : ∀ b o, s1.heap.get? b = some o → h₁.get? b = some o := fun b o e => hsb.extBut b o (Nat.ne_of_lt (Heap.lt_size e)) (Heap.get?_push_of_some _ e)
    have J : Inv (lamCx X (X.A.deeper (envOfC qg sg s.heap.objs.size g cdg)) (envOfC qg sg s.heap.objs.size g cdg :: X.stack) s1 HZ E scope f c') [] σ HZ { s1 with heap := h₁, toks := s1.toks + bs.length } :=
      lam_start3 I L I1.env0 hr.hd un hns kp
    refine PySem.W.kla_codeExpr (wpAny_mono ((hbody _ _ s1 HZ (hr.deeper _)).run [] _ _ HZ Q J ht) (fun v s' hq => ?_) fun e s' hq => hq)
    obtain ⟨w', H', J', rv, q⟩ := hq
    exact ⟨w', H', J'.os, J'.bare, J'.base, J'.hok, rv, q⟩
  have hx : Passes (L2.CX X.prog X.w) ((cxOf CXg X.prog X.w X.K X.mg X.base Ng qg sg g cdg X.A X.stack s H Eg).tr pn xe) E := passes_call tk hW
  refine wpAny_call (codeAny_mono rc fun r s' hq => ?_)
  cases r with
  | error e => exact hx pinsZ σZ HZ s1 e s' I1 hq
  | ok fl =>
    cases fl with
    | ret u => exact I1.after hq
    | next => exact False.elim hq
    | brk => exact False.elim hq
    | cont => exact False.elim hq
end
/-! ### the def that calls it -/
def AskG (P : Program) (wd : World) (K : Frag) (mg : Str → Option Value) (base : Heap) (Ng : List Str) (x : Str) (sg : Scope) (g : Addr) (cdg : Value) (bg : List Stmt) (a : Str) (fm : (Sto → Res D) → Sto → Res D) : Prop :=
  ∀ (A : Around) (outer : List Env) (f c' : Addr) (q : Str) (s : Shared) (H : Hp) (Q : VK) (tl : XK → Hp → VK → Prop) (w : Wd) (ml : Sto → Res D), Room 1 (A.deeper (envOfC x sg s.heap.objs.size g cdg)) →
    (∀ (W : WX) (pn : List (Addr × Obj)) (xe : Value → Shared → Prop) (E : XK) (p1 p2 : Pos), Takes ((cxOf C8.CX0 P wd K mg base Ng x sg g cdg A outer s H C8.E0).tr pn xe) W → (∀ cls d σ' H', E cls d H' → W cls d σ' H') →
      PE ((cxOf C8.CX0 P wd K mg base Ng x sg g cdg A outer s H C8.E0).tr pn xe) (.Call (.Name a p1) [] [] p2) (fun σZ HZ Q => σZ[0]? = some (some (.ref f)) ∧ HZ c' = some (CodeO c' q) ∧ tl E HZ Q)) →
    H c' = some (CodeO c' q) → w.H = H → Ok K w → (∀ (w' : Wd) (E' : XK) (Q' : VK), Step w w' → Ok K w' → PR K (Rep K) w' (ml w'.st) Q' E' → tl E' w'.H Q') → PR K (Rep K) w (fm ml w.st) Q E00 →
    ∃ t, PSs (cxOf C8.CX0 P wd K mg base Ng x sg g cdg A outer s H C8.E0).nox bg t ∧ t { nx := fun _ H' => Q .non H', rt := Q } (L2.start Ng [.ref f]) H
structure FnAsk (P : Program) (wd : World) (K : Frag) (mg : Str → Option Value) (base : Heap) (x : Str) (fm : (Sto → Res D) → Sto → Res D) : Prop where
  ex : ∃ (pg : Arguments) (bg : List Stmt) (sg : Scope) (fd : FuncData) (Ng : List Str) (a : Str), FunD K x x pg bg sg [] [] (He.ga K x) fd ∧ FnScope Ng [a] sg ∧ Ng[0]? = some a ∧ Vis sg a ∧ ((a == ("__debug__" : Str)) = false ∧ (a == ("__classdict__" : Str)) = false) ∧ Binds K fd [a] [] ∧
    ∀ cdg, AskG P wd K mg base Ng x sg (He.ga K x) cdg bg a fm
  glo : mg x = some (.ref (He.ga K x))
def eAsk (fm : (Sto → Res D) → Sto → Res D) (me : Em) : Em := fun σ st => noX (fm (me σ) st)
section
variable {X : Cx} {W : WX}
theorem kept_step {w : Wd} {H1 : Hp} (k : Kept w.H H1) : Step w ⟨w.mu, w.st, H1, w.op⟩ :=
  ⟨⟨[], by simp, by simp⟩, fun a o h _ hn => k.k a o h hn, fun _ h => h, Nat.le_refl _, k.n, ⟨[], rfl, by simp⟩⟩
theorem kept_ok {K : Frag} {w : Wd} {H1 : Hp} (ok : Ok K w) (k : Kept w.H H1) (t : Tabs (tabT K) H1) : Ok K ⟨w.mu, w.st, H1, w.op⟩ := by
  refine ⟨ok.len, ok.nd, fun a ha => ?_, fun a ha => ⟨(ok.opn a ha).1, k.n a (ok.opn a ha).2⟩, fun n a o h1 h2 => ?_, t⟩
  · obtain ⟨o, e⟩ := ok.has a ha
    cases q : H1 a with
    | none => exact absurd q (k.n a (not_none e))
    | some o' => exact ⟨o', q⟩
  · have r := ok.obj n a o h1 h2
    have e : H1 a = w.H a := by
      rcases ok.live_obj ⟨n, o, h1, h2⟩ with ⟨vs, e⟩ | ⟨C, dx, fv, e⟩
      · rw [e]; exact k.k a _ e (fun _ z => nomatch z)
      · rw [e]; exact k.k a _ e (fun _ z => nomatch z)
    exact r.step (kept_step k) ok e
theorem se_ask {fm : (Sto → Res D) → Sto → Res D} {me : Em} {x : Str} {c P : Addr} {k : Nat} {params : Arguments} {body : Expr} {scope : Scope} {ys : List Str} {p lpos pos : Pos} (F : FnAsk X.prog X.w X.K X.mg X.base x fm) (hr : Room (k + 2) X.A)
    (TB : TabB X.base X.mg c P) (hcode : X.env.code = .ref c) (hmT : (P, X.env.qual ++ lamN) ∈ tabT X.K) (hu : ∀ p ∈ tabT X.K, p.1 = P → p.2 = X.env.qual ++ lamN) (L : LamS3 X.N X.env.scope scope ys) (LK : LamK X params body scope ys)
    (hbody : ∀ (A : Around) (outer : List Env) (s : Shared) (H : Hp) (E : XK) (f c' : Addr), Room k (A.deeper (lamEnv X scope s.heap.objs.size f c')) → SE (lamCx X A outer s H E scope f c') (wOf E) body me)
    (hg : Gl X x := by rfl) (hdb : (x == ("__debug__" : Str)) = false := by decide) :
    SE X W (.Call (.Name x p) [.Lambda params body scope lpos] [] pos) (eAsk fm me) := by
  obtain ⟨pg, bg, sg, fd, Ng, a, FD, Sg, hNg, hva, ⟨hd, hcd⟩, hb, hG⟩ := F.ex
  obtain ⟨oc, od, dV, kV, doc, pm, an, cdv, ct, osl, rfl, lk, hcg, _, _⟩ := FD.ex
  refine ⟨fun pins s σV H Q I q => ?_⟩
  obtain ⟨w, σ, rfl, ok, sl, pr⟩ := q
  refine wpAny_Call_Name_kw (ld_glob I hg F.glo ?_ hdb)
  refine PySem.W.callWith_K (h₀ := X.base) I.ok.mod.kin FD.kp ?_ (by rfl) (by rfl)
  show wpAny _ _ (spliced ((false, eval (.Lambda params body scope lpos) X.env) :: backTo pos (starEach [] X.env))) _ _ s
  refine Calls.spliced_cons (lam_make LK I TB hcode hmT hu ok.tab (L.has I.ok) fun f c' pm' ctv dV' bs H1 s' I1 kE T1 hys hbl hf hfn hfr hco => ?_)
  refine Calls.spliced_nil ⟨I1.kIn, ?_⟩
  have s1 := kept_step (w := w) kE
  have ok1 := kept_ok ok kE T1
  have pr1 : PR X.K (Rep X.K) ⟨w.mu, w.st, H1, w.op⟩ (fm (me σ) w.st) Q E00 := by
    have z := PR.step s1 ok pr
    show PR _ _ _ _ _ _
    unfold eAsk at z
    cases e : fm (me σ) w.st with
    | ok d st2 => rw [e] at z; exact z
    | exc x st2 => rw [e] at z; exact z.elim
    | bad => rw [e] at z; exact z.elim
  have rc : codeAny (model X.prog X.w) X.A (.call (.ref (He.ga X.K x)) ⟨[.ref f], []⟩) (CR C8.CX0 X.stack X.prog X.w H1 s' Q C8.E0) s' := by
    refine LamX.run_ofS (N := Ng) (ps := [a]) (us := [.ref f]) (vs := [.ref f]) lk hcg Sg hr I1.env0 (hb s' [.ref f] I1.kIn rfl) (.cons rfl .nil) rfl fun hr' => ?_
    obtain ⟨t', ht', hq'⟩ := hG cdv X.A X.stack f c' (X.env.qual ++ lamN) s' H1 Q (fun E' H' Q' => TEm X.K me (wOf E') σV H' Q') ⟨w.mu, w.st, H1, w.op⟩ (me σ) (hr'.mono (by omega))
      (fun W2 pn xe E p1 p2 tk hW => pe_act3 (i := 0) I1 L hf hfn hfr hys hbl tk hW hr' (fun A outer s H hr2 => hbody A outer s H E f c' hr2) hNg hva hd hcd) hco rfl ok1
      (fun w' E' Q' st' ok' p' => ⟨w', σ, rfl, ok', (sl.step s1 ok).step st' ok1, p'⟩) pr1
    exact ⟨t', ht'.nox, hq'⟩
  refine wpAny_call (codeAny_mono rc fun r s2 hq => ?_)
  cases r with
  | error e => exact (show False from hq).elim
  | ok fl =>
    cases fl with
    | ret u => exact I1.after hq
    | next => exact False.elim hq
    | brk => exact False.elim hq
    | cont => exact False.elim hq
end
/-! ### try: return ["told", a()] / except C as e: suite -/
def finS (n : Nat) (r : RS) : Res D := match r with
  | .nx _ st' => finR n .non st'
  | .rt d st' => finR n d st'
  | _ => .bad
theorem fin_step {K : Frag} {w w1 : Wd} {r : RS} {Q : VK} (s : Step w w1) (ok : Ok K w) (h : PR K (Rep K) w (finS w.st.length r) Q E00) (hop : w1.op = w.op) : PSr K w1 r { nx := fun _ H' => Q .non H', rt := Q } W0 := by
  obtain ⟨mu', st', H', op'⟩ := w1
  obtain rfl : op' = w.op := hop
  cases r with
  | nx σ st => exact fun σV mu H t o sl => finR_ok ok (s.trans t ok) o .non h
  | rt d st => exact fun v mu H t o r => finR_ok ok (s.trans t ok) o r h
  | exc x σ st => exact h.elim
  | bk σ st => exact h.elim
  | ct σ st => exact h.elim
  | bad => exact h.elim
/-- n: how many names the def has -/
def fAsk (n : Nat) (z : Str) (an : Str → List Str) (leafs : List Str) (cl : List Cl) (ml : Sto → Res D) (st : Sto) : Res D :=
  finS st.length (sTry an leafs cl (fun σ st => (ml st).toRS σ fun d st1 => .rt (.lst [.str z, d]) st1) (List.replicate n none) st)
theorem ask_gives {P : Program} {wd : World} {K : Frag} {mg : Str → Option Value} {base : Heap} {Ng : List Str} {x a : Str} {z : Str} {sg : Scope} {g : Addr} {cdg : Value} {jz : Nat} {p1 p2 p3 p4 p5 p6 : Pos} {h₀ : ExceptHandler} {hds : List ExceptHandler} {cl : List Cl} {an : Str → List Str} {leafs : List Str}
    (nd : Ng.Nodup) (hlen : 1 ≤ Ng.length) (hh : ∀ (A : Around) (outer : List Env) (s : Shared) (H : Hp), Room 1 (A.deeper (envOfC x sg s.heap.objs.size g cdg)) → HdsS (cxOf C8.CX0 P wd K mg base Ng x sg g cdg A outer s H C8.E0).nox (h₀ :: hds) cl)
    (hex : ∀ C ∈ leafs, ∀ k ∈ cl, PySem.W.exmOne K (.ref (He.ga K C)) (.ref (He.ga K k.c)) = some (decide (k.c ∈ an C)))
    (hst : ∀ (A : Around) (outer : List Env) (s : Shared) (H : Hp), starEach [.Constant (.str z) jz p1, .Call (.Name a p2) [] [] p3] (cxOf C8.CX0 P wd K mg base Ng x sg g cdg A outer s H C8.E0).env = (false, eval (.Constant (.str z) jz p1) (cxOf C8.CX0 P wd K mg base Ng x sg g cdg A outer s H C8.E0).env) :: starEach [.Call (.Name a p2) [] [] p3] (cxOf C8.CX0 P wd K mg base Ng x sg g cdg A outer s H C8.E0).env := by intros; rfl)
    (hst2 : ∀ (A : Around) (outer : List Env) (s : Shared) (H : Hp), starEach [.Call (.Name a p2) [] [] p3] (cxOf C8.CX0 P wd K mg base Ng x sg g cdg A outer s H C8.E0).env = (false, eval (.Call (.Name a p2) [] [] p3) (cxOf C8.CX0 P wd K mg base Ng x sg g cdg A outer s H C8.E0).env) :: starEach [] (cxOf C8.CX0 P wd K mg base Ng x sg g cdg A outer s H C8.E0).env := by intros; rfl) :
    AskG P wd K mg base Ng x sg g cdg [.Try [.Return (some (.List [.Constant (.str z) jz p1, .Call (.Name a p2) [] [] p3] p4)) p5] (h₀ :: hds) [] [] p6] a (fAsk Ng.length z an leafs cl) := by
  intro A outer f c' q s H Q tl w ml hroom act hc hH ok hml p
  subst hH
  refine ⟨_, pss_one (ps_try_cl (X := (cxOf C8.CX0 P wd K mg base Ng x sg g cdg A outer s w.H C8.E0).nox)
      (tb := fun W' D σV H => σV[0]? = some (some (.ref f)) ∧ H c' = some (CodeO c' q) ∧ tl (fun c d H' => ∀ σ' : L2.St, σ'.length = Ng.length → W' c d σ' H') H fun v H1 => [V.str z, v].length ≤ sizeLine ∧ ∀ p, H1 p = none → D.rt (.ref p) (upd H1 p (.lst [V.str z, v])))
      rfl rfl nd takes0 (fun W' pn xe tk _ => ?_) (hh A outer s w.H hroom).raw), ?_⟩
  · refine ⟨fun pins s' σ H' D I h' => ?_⟩
    obtain ⟨h1, h2, h3⟩ := h'
    have tk2 : Takes ((cxOf C8.CX0 P wd K mg base Ng x sg g cdg A outer s w.H C8.E0).tr pn xe) (fun c d σ' H' => σ'.length = Ng.length → W' c d σ' H') := fun u s2 ⟨a1, B, sI, pi, σ2, H2, cls, d, e, I2, nb, up, sky, na, os, ag, w2⟩ =>
      tk u s2 ⟨a1, B, sI, pi, σ2, H2, cls, d, e, I2, nb, up, sky, na, os, ag, w2 I2.len⟩
    have hp := act (fun c d σ' H' => σ'.length = Ng.length → W' c d σ' H') pn xe (fun c d H' => ∀ σ' : L2.St, σ'.length = Ng.length → W' c d σ' H') p2 p3 tk2 (fun c d σ' H' hE hl => hE σ' hl)
    have hq := pss_one (ps_ret (pos := p5) (pe_lst (pos := p4) (pa_cons (pe_str (x := z) (j := jz) (pos := p1)) (pa_cons hp pa_nil (hst2 A outer s w.H)) (hst A outer s w.H))))
    exact hq.run pins s' σ H' D I ⟨h1, h2, h3⟩
  · refine ⟨?_, hc, hml w _ _ (.refl _) ok ?_⟩
    · unfold L2.start
      simp
    · unfold fAsk sTry at p
      cases e : ml w.st with
      | bad => simp only [e, Res.toRS] at p; exact p.elim
      | ok d st1 =>
        simp only [e, Res.toRS] at p
        intro b mu H1 s1 o1 r1
        refine ⟨by rw [sizeLine_eq]; exact (by decide : 2 ≤ 16777216), fun pa hpa => ?_⟩
        have s2 := put_step (w := ⟨mu, st1, H1, w.op⟩) (o := .lst [V.str z, b]) hpa
        have o2 := put_ok (o := .lst [V.str z, b]) o1 hpa
        have rr : Rep K (Wd.put ⟨mu, st1, H1, w.op⟩ pa (.lst [V.str z, b])) (.ref pa) (.lst [.str z, d]) := rep_new_lst o1 hpa (.cons (.str z) (.cons r1 .nil))
        exact finR_ok (mu := mu) (st := st1) ok (s1.trans s2 ok) o2 rr p
      | exc xx st1 =>
        simp only [e, Res.toRS] at p
        intro c dd mu H1 s1 o1 rx σ' hl
        by_cases hx : xx.cls ∈ leafs
        · rw [if_pos hx] at p
          have p2 := fin_step s1 ok p rfl
          exact hd_reads (w := ⟨mu, st1, H1, w.op⟩) (hex _ hx) o1 ⟨by rw [List.length_replicate, hl], fun i d e => by
            rw [List.getElem?_replicate] at e
            split at e <;> cases e⟩ rx p2
        · rw [if_neg hx] at p
          exact p.elim
end Sim

set_option Elab.async false
set_option linter.all false
set_option maxRecDepth 100000
set_option maxHeartbeats 4000000
/-! what the generated texts want of the defs that make lambdas, of the classes that clauses name -/
namespace Sim
open PySem PySem.Spec PyProof.Rows L2
open LamX (TabB lamEnv lamCx)
section
variable {P : Program} {wd : World} {K : Frag} {mg : Str → Option Value} {base : Heap}
theorem fn_simC {x qual : Str} {params : Arguments} {body : List Stmt} {scope : Scope} {dvs : List V} {kws : List (Str × V)} {fd : FuncData} {N ps : List Str} {k : Nat} {m : Sm}
    (F : FunD K x qual params body scope dvs kws (He.ga K x) fd) (S : FnScope N ps scope)
    (hb : ∀ (cdv : Value), cdv = .ref (He.cT K (x, none)).1 → ∀ (A : Around) (outer : List Env) (s : Shared) (H : Hp) (E : XK), Room k (A.deeper (envOfC qual scope s.heap.objs.size (He.ga K x) cdv)) →
      SSs (cxOf (CXp P wd) P wd K mg base N qual scope (He.ga K x) cdv A outer s H E) (wOf E) body m) : FnOk P wd K mg base (CXp P wd) (k + 1) (He.ga K x) fd ps (spM K ps.length (runDef N.length m)) := by
  obtain ⟨oc, od, dV, kV, doc, pm, an, cdv, ct, osl, rfl, lk, hcd, _, _⟩ := F.ex
  obtain ⟨c, rfl⟩ := He.codeIn_ref hcd
  have e : He.codeOf K (x, none) = c := He.codeOf_eq (p := (x, none)) (by exact lk) rfl
  exact fn_of lk hcd S (fun vs H Q E h => h.len) fun A outer s H vs Q E hr hsp => ⟨_, hb (.ref c) (by rw [← e]; rfl) A outer s H E hr, body_reads hsp⟩
theorem lam_takes {X : Cx} {A : Around} {outer : List Env} {s : Shared} {H : Hp} {E : XK} {scope : Scope} {f c' : Addr} : Takes (lamCx X A outer s H E scope f c') (wOf E) := takes_of rfl rfl rfl rfl
theorem subB_ok {K : Frag} {owns : List Str} (h : subB K owns = true) : ∀ C ∈ owns, PySem.W.subIn K (.ref (He.ga K C)) (.type "BaseException") = some true := fun C hC => of_decide_eq_true (List.all_eq_true.mp h C hC)
def qualL (x : Str) : Str := (x ++ (".<locals>." : Str)) ++ ("<lambda>" : Str)
theorem tab_mem {x : Str} (h : x ∈ tabN) : ((He.cT K (x, none)).2, qualL x) ∈ tabT K := List.mem_map_of_mem (f := fun x => ((He.cT K (x, none)).2, qualL x)) h
theorem tab_uniq {x : Str} (hi : tabInj K = true) (h : x ∈ tabN) : ∀ p ∈ tabT K, p.1 = (He.cT K (x, none)).2 → p.2 = qualL x := fun p hp e => by
  obtain ⟨y, hy, rfl⟩ := List.mem_map.mp hp
  have z := List.all_eq_true.mp (List.all_eq_true.mp hi y hy) x h
  simp only [Bool.or_eq_true, decide_eq_true_eq, Bool.not_eq_true', decide_eq_false_iff_not] at z
  rcases z with z | z
  · rw [z]; rfl
  · exact absurd e z
variable {ancO : Str → List Str} {ancT : Str → List String} {leafs owns : List Str}
theorem exm_ok (h : isTabB K ancO ancT leafs owns = true) (hs : ∀ C ∈ leafs, C ∈ ancO C ∧ ∀ A ∈ ancO C, A ∈ owns) (hx : ∀ C ∈ owns, PySem.W.subIn K (.ref (He.ga K C)) (.type "BaseException") = some true) {C T : Str} (hC : C ∈ leafs) (hT : T ∈ owns) :
    PySem.W.exmOne K (.ref (He.ga K C)) (.ref (He.ga K T)) = some (decide (T ∈ ancO C)) := by
  obtain ⟨cd, h1, h2⟩ := isTab_mro h hC
  obtain ⟨h3, h4⟩ := Bool.and_eq_true_iff.mp (Bool.and_eq_true_iff.mp h).2
  have inj := incr_inj h4
  have hT2 := List.all_eq_true.mp h3 T hT
  have hne : cd.mro ≠ [] := by
    rw [h2]
    intro z
    have z1 := (List.append_eq_nil_iff.mp z).1
    have z2 := (hs C hC).1
    rw [List.map_eq_nil_iff.mp z1] at z2
    cases z2
  have hc : cd.mro.contains (.ref (He.ga K T)) = decide (T ∈ ancO C) := by
    rw [h2]
    by_cases hm : T ∈ ancO C
    · rw [decide_eq_true hm]
      simp only [List.contains_eq_mem, decide_eq_true_eq]
      exact List.mem_append_left _ (List.mem_map_of_mem (f := fun A => Value.ref (He.ga K A)) hm)
    · rw [decide_eq_false hm]
      simp only [List.contains_eq_mem, decide_eq_false_iff_not]
      intro z
      rcases List.mem_append.mp z with z | z
      · obtain ⟨A, hA, hv⟩ := List.mem_map.mp z
        have q : He.ga K A = He.ga K T := Value.ref.inj hv
        rw [inj A ((hs C hC).2 A hA) T hT q] at hA
        exact hm hA
      · obtain ⟨A, hA, hv⟩ := List.mem_map.mp z
        cases hv
  unfold PySem.W.exmOne
  rw [if_pos (by rw [hx T hT]; rfl)]
  unfold PySem.W.kitCls
  have q4 : ((PySem.W.clsIn K (He.ga K T)).isSome && PySem.W.typeIn K (.ref (He.ga K T)) == some (.type "type")) = true := by
    obtain ⟨a1, a2⟩ := Bool.and_eq_true_iff.mp hT2
    rw [a1, of_decide_eq_true a2]
    simp
  simp only [q4, if_true]
  rw [mro_sub h1 hne, hc]
end
end Sim

set_option Elab.async false
set_option linter.all false
set_option maxRecDepth 100000
set_option maxHeartbeats 4000000
/-! own operators, own ==, own len, methods in all ways of calling -/
namespace Sim
open PySem PySem.Spec PyProof.Rows L2
def isC (C : Str) (d : D) (st : Sto) : Bool := match d with
  | .ins C' _ => decide (C' = C)
  | .ref n => (match st[n]? with
    | some (some (.ins C' _)) => decide (C' = C)
    | _ => false)
  | _ => false
theorem isC_ok {K : Frag} {w : Wd} {C : Str} {v : V} {d : D} (hno : PySem.W.findIn K (.ref (He.ga K C)) "__getattribute__" ≠ some (some (.builtin "BaseException.__getattribute__"))) (ok : Ok K w) (r : Rep K w v d) (h : isC C d w.st = true) :
    ∃ a dx fv, v = .ref a ∧ w.H a = some (.ins (He.ga K C) dx fv) ∧ Cls K (He.ga K C) := by
  cases r with
  | ins h1 hl ho hs hc =>
    obtain rfl := of_decide_eq_true h
    exact ⟨_, _, _, rfl, h1, hc.cls⟩
  | exo h1 h2 hl hl2 ho ho2 hs hc =>
    obtain rfl := of_decide_eq_true h
    exact absurd hc.ga hno
  | @ref a n h1 =>
    unfold isC at h
    cases e : w.st[n]? with
    | none => simp only [e] at h; cases h
    | some o =>
      cases o with
      | none => simp only [e] at h; cases h
      | some o =>
        cases o with
        | lst ds => simp only [e] at h; cases h
        | ins C' fs =>
          simp only [e] at h
          obtain rfl := of_decide_eq_true h
          obtain ⟨dx, fv, h2, h3, hc⟩ := ok.obj n a _ h1 e
          exact ⟨_, _, _, rfl, h2, hc.cls⟩
  | _ => cases h
/-- a method by its name -/
structure FnM (P : Program) (w : World) (K : Frag) (mg : Str → Option Value) (base : Heap) (C m : Str) (k n : Nat) (f : List D → Sto → Res D) (modes : List (Nat × List Str × Bool)) : Prop where
  ex : ∃ (fd : FuncData) (ps : List Str), FnOk P w K mg base (CXp P w) k (He.ma K (He.ga K C) m) fd ps (spM K n f) ∧ Binds K fd ps [] ∧ ∀ md ∈ modes, KBn K fd ps (md.1 + 1) md.2.1 (gB md.2.2) (gB md.2.2)
  mt : Meth K (He.ga K C) m (He.ma K (He.ga K C) m)
  hno : PySem.W.findIn K (.ref (He.ga K C)) "__getattribute__" ≠ some (some (.builtin "BaseException.__getattribute__"))
  len : ∀ ds st, f ds st ≠ .bad → ds.length = n
theorem rel_ni {x : V} {v : Value} {P : Prop} (r : RelV x v) (h : v = .notImplemented) : P := by
  subst h
  cases x <;> first | (obtain ⟨_, e⟩ := r; cases e) | cases r
theorem cmp_back {X : Cx} {pins : List (Addr × Obj)} {σ : L2.St} {Q : VK} {v : Value} {s : Shared} (h : EP X pins σ Q v s) : PySem.W.CmpBack (EP X pins σ Q) v s := by
  obtain ⟨x, H, I, r, q⟩ := h
  cases v <;> first | exact rel_ni r rfl | exact ⟨x, H, I, r, q⟩
section
variable {X : Cx} {W : WX} {C : Str} {j k n : Nat} {f : List D → Sto → Res D} {modes : List (Nat × List Str × Bool)} {ma mb mo : Em} {a b o : Expr} {pos : Pos}
def opD (C : Str) (f : List D → Sto → Res D) : D → D → Sto → Res D := fun x y st => if isC C x st = true ∧ isC C y st = true then f [x, y] st else .bad
theorem se_bop {op : Operator} {m : Str} (M : FnM X.prog X.w X.K X.mg X.base C m k 2 f modes) (hm : m = PySem.dunder op.info.2) (sf : PySem.W.selfFirst X.K (He.ga X.K C) = true) (hr : Room j X.A) (hk : k ≤ j) (tk : Takes X W) (ha : SE X W a ma) (hb : SE X W b mb) :
    SE X W (.BinOp a op b pos) (eBin (opD C f) ma mb) := by
  obtain ⟨fd, ps, F, B, _⟩ := M.ex
  refine ⟨fun pins s σV H Q I q => ?_⟩
  refine wpAny_BinOp (binT (R := fun x y H2 => ∃ (a1 b1 dx dy : Addr) (fx fy : List (Str × V)), x = .ref a1 ∧ y = .ref b1 ∧ H2 a1 = some (.ins (He.ga X.K C) dx fx) ∧ H2 b1 = some (.ins (He.ga X.K C) dy fy) ∧ spM X.K 2 f [x, y] H2 Q (WE W σV)) ha hb I ?_ fun v u s2 x y H2 I2 rx ry q2 => ?_)
  · obtain ⟨w, σ, rfl, ok, sl, p⟩ := q
    refine ⟨w, σ, rfl, ok, sl, PR.bind ok p fun d st x mu H1 e1 s1 ok1 r1 p1 => ?_⟩
    refine ⟨⟨mu, st, H1, w.op⟩, σ, rfl, ok1, sl.step s1 ok, PR.bind ok1 p1 fun d2 st2 y mu2 H2 e2 s2 ok2 r2 p2 => ?_⟩
    unfold opD at p2
    by_cases hi : isC C d st2 = true ∧ isC C d2 st2 = true
    · rw [if_pos hi] at p2
      have r1' := r1.step s2 ok1
      obtain ⟨a1, dx, fx, rfl, h1, _⟩ := isC_ok (w := ⟨mu2, st2, H2, w.op⟩) M.hno ok2 r1' hi.1
      obtain ⟨b1, dy, fy, rfl, h2, _⟩ := isC_ok (w := ⟨mu2, st2, H2, w.op⟩) M.hno ok2 r2 hi.2
      exact ⟨a1, b1, dx, dy, fx, fy, rfl, rfl, h1, h2, ⟨mu2, st2, H2, w.op⟩, [d, d2], rfl, ok2, .cons r1' (.cons r2 .nil), M.len _ _ (fun z => by rw [z] at p2; exact p2), p2⟩
    · rw [if_neg hi] at p2
      exact p2.elim
  · obtain ⟨a1, b1, dx, dy, fx, fy, rfl, rfl, h1, h2, hs⟩ := q2
    cases rx
    cases ry
    obtain ⟨mA, J, _⟩ := ins_get I2.hok h1
    obtain ⟨mB, J', _⟩ := ins_get I2.hok h2
    obtain ⟨od, J, _⟩ := J.look
    obtain ⟨od', J', _⟩ := J'.look
    obtain ⟨m0, hF⟩ := I2.fr
    subst hm
    refine PySem.W.binop_K hF I2.ok.mod.kin J J'.type sf M.mt.at_ M.mt.fn ?_
    refine wpAny_mono (run_fnS (us := [.ref a1, .ref b1]) (vs := [.ref a1, .ref b1]) (E := WE W) F (hr.mono hk) B (passAt tk σV) I2 (.cons rfl (.cons rfl .nil)) hs) (fun v s' z => cmp_back z) fun _ _ x => x
/-- -o, ~o -/
def unD (C : Str) (f : List D → Sto → Res D) : D → Sto → Res D := fun x st => if isC C x st = true then f [x] st else .bad
theorem t_unD (M : FnM X.prog X.w X.K X.mg X.base C n' k 1 f modes) {σV : L2.St} {H : Hp} {Q : VK} (q : TEm X.K (eUn (unD C f) ma) W σV H Q) :
    TEm X.K ma W σV H fun x H2 => ∃ (a1 dx : Addr) (fx : List (Str × V)), x = .ref a1 ∧ H2 a1 = some (.ins (He.ga X.K C) dx fx) ∧ spM X.K 1 f [x] H2 Q (WE W σV) := by
  obtain ⟨w, σ, rfl, ok, sl, p⟩ := q
  refine ⟨w, σ, rfl, ok, sl, PR.bind ok p fun d st x mu H1 e1 s1 ok1 r1 p1 => ?_⟩
  unfold unD at p1
  by_cases hi : isC C d st = true
  · rw [if_pos hi] at p1
    obtain ⟨a1, dx, fx, rfl, h1, _⟩ := isC_ok (w := ⟨mu, st, H1, w.op⟩) M.hno ok1 r1 hi
    exact ⟨a1, dx, fx, rfl, h1, ⟨mu, st, H1, w.op⟩, [d], rfl, ok1, .cons r1 .nil, M.len _ _ (fun z => by rw [z] at p1; exact p1), p1⟩
  · rw [if_neg hi] at p1
    exact p1.elim
theorem se_uneg (M : FnM X.prog X.w X.K X.mg X.base C "__neg__" k 1 f modes) (hr : Room j X.A) (hk : k ≤ j) (tk : Takes X W) (ha : SE X W a ma) : SE X W (.UnaryOp .USub a pos) (eUn (unD C f) ma) := by
  obtain ⟨fd, ps, F, B, _⟩ := M.ex
  refine ⟨fun pins s σV H Q I q => UnaryOp_ (thn (ha.run pins s σV H _ I (t_unD M q)) fun v s1 ⟨x, H1, I1, r1, a1, dx, fx, ex, h1, hs⟩ => ?_)⟩
  subst ex
  cases r1
  obtain ⟨mA, J, _⟩ := ins_get I1.hok h1
  obtain ⟨od, J, _⟩ := J.look
  obtain ⟨m0, hF⟩ := I1.fr
  exact PySem.W.ksp_neg hF I1.ok.mod.kin J M.mt.at_ M.mt.fn (run_fnS (us := [.ref a1]) (vs := [.ref a1]) (E := WE W) F (hr.mono hk) B (passAt tk σV) I1 (.cons rfl .nil) hs)
theorem se_uinv (M : FnM X.prog X.w X.K X.mg X.base C "__invert__" k 1 f modes) (hr : Room j X.A) (hk : k ≤ j) (tk : Takes X W) (ha : SE X W a ma) : SE X W (.UnaryOp .Invert a pos) (eUn (unD C f) ma) := by
  obtain ⟨fd, ps, F, B, _⟩ := M.ex
  refine ⟨fun pins s σV H Q I q => UnaryOp_ (thn (ha.run pins s σV H _ I (t_unD M q)) fun v s1 ⟨x, H1, I1, r1, a1, dx, fx, ex, h1, hs⟩ => ?_)⟩
  subst ex
  cases r1
  obtain ⟨mA, J, _⟩ := ins_get I1.hok h1
  obtain ⟨od, J, _⟩ := J.look
  obtain ⟨m0, hF⟩ := I1.fr
  exact PySem.W.ksp_inv hF I1.ok.mod.kin J M.mt.at_ M.mt.fn (run_fnS (us := [.ref a1]) (vs := [.ref a1]) (E := WE W) F (hr.mono hk) B (passAt tk σV) I1 (.cons rfl .nil) hs)
/-! ### own == -/
def okT (cs : List Str) (d : D) (st : Sto) : Bool := match tgOf d st with
  | some (.b n) => decide (n ∈ tyNames)
  | some (.c C) => decide (C ∈ cs)
  | none => false
def eqO (C : Str) (cs : List Str) (f : List D → Sto → Res D) : D → D → Sto → Res D := fun x y st => if isC C x st = true ∧ okT cs y st = true then f [x, y] st else .bad
theorem okT_ok {K : Frag} {C : Addr} {cs : List Str} {d : D} {st : Sto} (h : okT cs d st = true) (nf : nfB K C cs = true) : ∃ t, tgOf d st = some t ∧ PySem.W.notFirst K C (t.val K) = true := by
  obtain ⟨n1, n2⟩ := Bool.and_eq_true_iff.mp nf
  unfold okT at h
  cases e : tgOf d st with
  | none => simp only [e] at h; cases h
  | some t =>
    refine ⟨t, rfl, ?_⟩
    cases t with
    | b n => simp only [e] at h; exact List.all_eq_true.mp n1 n (of_decide_eq_true h)
    | c C' => simp only [e] at h; exact List.all_eq_true.mp n2 C' (of_decide_eq_true h)
def REq (K : Frag) (C : Str) (f : List D → Sto → Res D) (Q : VK) (E : XK) (x y : V) (H2 : Hp) : Prop :=
  ∃ (a1 dx : Addr) (fx : List (Str × V)), x = .ref a1 ∧ H2 a1 = some (.ins (He.ga K C) dx fx) ∧ (∃ (w : Wd) (d : D) (t : Tg), w.H = H2 ∧ Ok K w ∧ Rep K w y d ∧ tgOf d w.st = some t ∧ PySem.W.notFirst K (He.ga K C) (t.val K) = true) ∧ spM K 2 f [x, y] H2 Q E
theorem t_eqO {cs : List Str} {m : Str} (M : FnM X.prog X.w X.K X.mg X.base C m k 2 f modes) (nf : nfB X.K (He.ga X.K C) cs = true) {σV : L2.St} {H : Hp} {Q : VK} (q : TEm X.K (eBin (eqO C cs f) ma mb) W σV H Q) :
    TEm X.K ma W σV H fun x H1 => TEm X.K mb W σV H1 fun y H2 => REq X.K C f Q (WE W σV) x y H2 := by
  obtain ⟨w, σ, rfl, ok, sl, p⟩ := q
  refine ⟨w, σ, rfl, ok, sl, PR.bind ok p fun d st x mu H1 e1 s1 ok1 r1 p1 => ?_⟩
  refine ⟨⟨mu, st, H1, w.op⟩, σ, rfl, ok1, sl.step s1 ok, PR.bind ok1 p1 fun d2 st2 y mu2 H2 e2 s2 ok2 r2 p2 => ?_⟩
  unfold eqO at p2
  by_cases hi : isC C d st2 = true ∧ okT cs d2 st2 = true
  · rw [if_pos hi] at p2
    have r1' := r1.step s2 ok1
    obtain ⟨a1, dx, fx, rfl, h1, _⟩ := isC_ok (w := ⟨mu2, st2, H2, w.op⟩) M.hno ok2 r1' hi.1
    obtain ⟨t, h3, h4⟩ := okT_ok hi.2 nf
    exact ⟨a1, dx, fx, rfl, h1, ⟨⟨mu2, st2, H2, w.op⟩, d2, t, rfl, ok2, r2, h3, h4⟩, ⟨mu2, st2, H2, w.op⟩, [d, d2], rfl, ok2, .cons r1' (.cons r2 .nil), M.len _ _ (fun z => by rw [z] at p2; exact p2), p2⟩
  · rw [if_neg hi] at p2
    exact p2.elim
theorem run_eqO {pins : List (Addr × Obj)} {s : Shared} {σV : L2.St} {H2 : Hp} {x y : V} {v u : Value} {Q : VK} (M : FnM X.prog X.w X.K X.mg X.base C "__eq__" k 2 f modes) (hr : Room j X.A) (hk : k ≤ j) (tk : Takes X W) (I : Inv X pins σV H2 s) (rx : RelV x v) (ry : RelV y u)
    (q : REq X.K C f Q (WE W σV) x y H2) : wpAny (model X.prog X.w) X.A (compareOp .Eq v u) (EP X pins σV Q) X.xe s := by
  obtain ⟨a1, dx, fx, rfl, h1, ⟨w, d, t, hH, ok, rd, ht, hn⟩, hs⟩ := q
  obtain ⟨fd, ps, F, B, _⟩ := M.ex
  cases rx
  obtain ⟨P, Z, pz, _⟩ := kit_rep I ry hH ok rd ht
  obtain ⟨mA, J, _⟩ := ins_get I.hok h1
  obtain ⟨od, J, _⟩ := J.look
  obtain ⟨m0, hF⟩ := I.fr
  show wpAny (model X.prog X.w) X.A (richCompare .Eq (.ref a1) u) (EP X pins σV Q) X.xe s
  refine PySem.W.cmp_K (op := .Eq) (tb := t.val X.K) hr.units0 hF I.ok.mod.kin J (Z.ty _ _ I.kIn pz) hn M.mt.at_ M.mt.fn ?_
  exact wpAny_mono (run_fnS (us := [.ref a1, u]) (vs := [.ref a1, y]) (E := WE W) F (hr.mono hk) B (passAt tk σV) I (.cons rfl (.cons ry .nil)) hs) (fun v s' z => cmp_back z) fun _ _ x => x
theorem se_ueq {cs : List Str} (M : FnM X.prog X.w X.K X.mg X.base C "__eq__" k 2 f modes) (nf : nfB X.K (He.ga X.K C) cs = true) (hr : Room j X.A) (hk : k ≤ j) (tk : Takes X W) (ha : SE X W a ma) (hb : SE X W b mb) :
    SE X W (.Compare a [.Eq] [b] pos) (eBin (eqO C cs f) ma mb) := by
  refine ⟨fun pins s σV H Q I q => ?_⟩
  exact wpAny_Compare1 (binT (R := REq X.K C f Q (WE W σV)) ha hb I (t_eqO M nf q) fun v u s2 x y H2 I2 rx ry q2 => run_eqO M hr hk tk I2 rx ry q2) (nomark _)
theorem st_ueq {cs : List Str} (M : FnM X.prog X.w X.K X.mg X.base C "__eq__" k 2 f modes) (nf : nfB X.K (He.ga X.K C) cs = true) (hr : Room j X.A) (hk : k ≤ j) (tk : Takes X W) (ha : SE X W a ma) (hb : SE X W b mb) :
    ST X W (.Compare a [.Eq] [b] pos) (tOf (eBin (eqO C cs f) ma mb)) := by
  refine ⟨fun pins s σV H Q I q0 => ?_⟩
  have q := t_test q0
  refine wpAny_isTrue_Compare1 (binT (R := REq X.K C f _ (WE W σV)) ha hb I (t_eqO M nf q) fun v u s2 x y H2 I2 rx ry q2 => thn (run_eqO M hr hk tk I2 rx ry q2) fun c s3 ⟨z, H3, I3, r3, k, e, q3⟩ => ?_) (nomark _)
  subst e
  cases r3
  exact wpAny_truthy_bool ⟨H3, I3, q3⟩
/-! ### own len -/
theorem run_fnA {A : Around} {pins : List (Addr × Obj)} {σ : L2.St} {H : Hp} {s : Shared} {Q : VK} {us : List Value} {vs : List V} {g : Addr} {fd : FuncData} {ps : List Str} {sp : Sp} {E : XK} (rm : Room k A) (fr : A.frames = X.A.frames) (F : FnOk X.prog X.w X.K X.mg X.base (CXp X.prog X.w) k g fd ps sp) (hb : Binds X.K fd ps []) (hx : PassesAt (CXp X.prog X.w) X σ E)
    (I : Inv X pins σ H s) (r : Vals vs us) (h : sp vs H Q E) : wpAny (model X.prog X.w) A (call (.ref g) us) (EP X pins σ Q) X.xe s := by
  have hl : us.length = ps.length := by rw [← r.length]; exact F.len _ _ _ _ h
  have b := hb s us I.kIn (by rw [List.append_nil]; exact hl)
  rw [List.append_nil] at b
  have e0 : Env0 X.prog X.w X.K X.mg X.base A X.stack s H := by
    have e := I.env0
    exact ⟨by rw [fr]; exact e.frames, e.mod, e.bs, e.bsz, e.funs, e.frf, e.hok, e.bare⟩
  refine wpAny_call (codeAny_mono (F.run A X.stack s H ⟨us, []⟩ us vs Q E rm e0 b r h) fun r s' hq => ?_)
  cases r with
  | error e => exact hx pins H s e s' I hq
  | ok fl =>
    cases fl with
    | ret u => exact I.after hq
    | next => exact False.elim hq
    | brk => exact False.elim hq
    | cont => exact False.elim hq
def lenO (C : Str) (f : List D → Sto → Res D) : List D → Sto → Res D := fun ds st => match ds with
  | [d] => if isC C d st = true then (match f [d] st with
    | .ok (.int i) st1 => if 0 ≤ i ∧ i < 2 ^ 62 then .ok (.int i) st1 else .bad
    | _ => .bad) else .bad
  | _ => .bad
def rLenO (K : Frag) (C : Str) (f : List D → Sto → Res D) : List V → Hp → VK → Prop := fun xs H Q => ∃ (a1 dx : Addr) (fx : List (Str × V)), xs = [.ref a1] ∧ H a1 = some (.ins (He.ga K C) dx fx) ∧ spM K 1 f [.ref a1] H (fun v H' => ∃ i, v = .int i ∧ 0 ≤ i ∧ i < 2 ^ 62 ∧ Q (.int i) H') E00
theorem gc_lenO {m : Str} (M : FnM X.prog X.w X.K X.mg X.base C m k 1 f modes) : GC X.K (rLenO X.K C f) (lenO C f) := fun w xs ds Q E ok rs p => by
  cases rs with
  | nil => exact p.elim
  | cons r t =>
    cases t with
    | cons _ _ => exact p.elim
    | nil =>
      rename_i x d
      unfold lenO at p
      simp only at p
      by_cases hi : isC C d w.st = true
      · rw [if_pos hi] at p
        obtain ⟨a1, dx, fx, rfl, h1, _⟩ := isC_ok M.hno ok r hi
        refine ⟨a1, dx, fx, rfl, h1, w, [d], rfl, ok, .cons r .nil, M.len _ _ (fun z => by rw [z] at p; exact p), ?_⟩
        cases e : f [d] w.st with
        | bad => rw [e] at p; exact p.elim
        | exc x st => rw [e] at p; exact p.elim
        | ok z st =>
          rw [e] at p
          cases z with
          | int i =>
            simp only at p
            by_cases hb : 0 ≤ i ∧ i < 2 ^ 62
            · rw [if_pos hb] at p
              intro v mu H' s1 ok1 r1
              cases r1
              exact ⟨i, rfl, hb.1, hb.2, p _ mu H' s1 ok1 (.int i)⟩
            · rw [if_neg hb] at p; exact p.elim
          | _ => exact p.elim
      · rw [if_neg hi] at p; exact p.elim
theorem call_lenO (M : FnM X.prog X.w X.K X.mg X.base C "__len__" k 1 f modes) (hr : Room j X.A) (hk : k + 1 ≤ j) : CallR X (.builtin "len") (rLenO X.K C f) := by
  intro pins s σ H xs us Q I r h
  obtain ⟨a1, dx, fx, rfl, h1, hs⟩ := h
  obtain ⟨u1, rfl, r1⟩ := vals1 r
  cases r1
  obtain ⟨fd, ps, F, B, _⟩ := M.ex
  obtain ⟨mA, J, _⟩ := ins_get I.hok h1
  obtain ⟨od, J, _⟩ := J.look
  obtain ⟨m0, hF⟩ := I.fr
  refine PySem.W.len_K hF I.ok.mod.kin J M.mt.at_ M.mt.fn ?_
  refine wpAny_mono (run_fnA (us := [.ref a1]) (vs := [.ref a1]) (A := X.A.in1) (hr.mono hk).in1 rfl F B (passAt (takes0 : Takes X W0) σ) I (.cons rfl .nil) hs) (fun v s' z => ?_) fun _ _ x => x
  obtain ⟨x, H', I', rx, i, ex, i0, i1, q⟩ := z
  subst ex
  obtain ⟨t, rfl⟩ := rx
  exact ⟨⟨i0, by omega⟩, .int i, H', I'.tok _, ⟨_, rfl⟩, q⟩
end
end Sim

set_option Elab.async false
set_option linter.all false
set_option maxRecDepth 100000
set_option maxHeartbeats 4000000
/-! methods, static methods, classes: no argument, keywords -/
namespace Sim
open PySem PySem.Spec PyProof.Rows L2
section
variable {X : Cx} {W : WX} {C mn : Str} {j k n n0 : Nat} {f : List D → Sto → Res D} {modes : List (Nat × List Str × Bool)} {ks : List Str} {rv : Bool} {ma mk : Am} {mo : Em} {o e : Expr} {es : List Expr} {kws : List Keyword} {apos pos p0 p : Pos} {pl : Sem Bool}
theorem se_fm (M : FnM X.prog X.w X.K X.mg X.base C mn k n f modes) (hr : Room j X.A) (hk : k ≤ j) (tk : Takes X W) (ho : SE X W o mo) (ha : SA X W (e :: es) ma)
    (hst : starEach (e :: es) X.env = (false, eval e X.env) :: starEach es X.env := by rfl) (hpl : (backTo pos (starEach es X.env)).any (·.1) = false := by rfl)
    (ht : eval (.Call (.Attribute o mn apos) (e :: es) [] pos) X.env = (do
      let ov ← eval o X.env
      standAt apos.atName
      let (f, first) ← holding [ov] (getMethod ov mn pl)
      callWith pos f first (backTo pos (starEach (e :: es) X.env)) (backToKw pos (keywordEach [] X.env))) := by rfl) :
    SE X W (.Call (.Attribute o mn apos) (e :: es) [] pos) (eMeth C mn f mo ma) := by
  obtain ⟨fd, ps, F, B, _⟩ := M.ex
  exact se_meth M.hno M.mt F hr hk B tk M.len ho ha hst hpl ht
/-- the receiver, then what is handed over -/
theorem t_recv {mr : Sl → Sto → D → Res D} (M : FnM X.prog X.w X.K X.mg X.base C mn k n f modes) {R : Addr → Hp → Prop} {σV : L2.St} {H : Hp} {Q : VK}
    (q : TEm X.K (fun σ st => (mo σ st).bind fun d st1 => if insOf C mn d st1 = true then mr σ st1 d else .bad) W σV H Q)
    (h : ∀ (w : Wd) (σ : Sl) (d : D) (a : Addr), Ok X.K w → Slots X.K w σ σV → Rep X.K w (.ref a) d → PR X.K (Rep X.K) w (mr σ w.st d) Q (xk W σV) → R a w.H) :
    TEm X.K mo W σV H fun x H1 => ∃ a dx fv, x = .ref a ∧ H1 a = some (.ins (He.ga X.K C) dx fv) ∧ fv.lookup mn = none ∧ Cls X.K (He.ga X.K C) ∧ R a H1 := by
  obtain ⟨w, σ, rfl, ok, sl, p⟩ := q
  refine ⟨w, σ, rfl, ok, sl, PR.bind ok p fun d st x mu H1 e1 s1 ok1 r1 p1 => ?_⟩
  by_cases hi : insOf C mn d st = true
  · rw [if_pos hi] at p1
    obtain ⟨a, dx, fv, rfl, h1, h2, h3⟩ := insOf_ok (w := ⟨mu, st, H1, w.op⟩) M.hno ok1 r1 hi
    exact ⟨a, dx, fv, rfl, h1, h2, h3, h ⟨mu, st, H1, w.op⟩ σ d a ok1 (sl.step s1 ok) r1 p1⟩
  · rw [if_neg hi] at p1
    exact p1.elim
theorem se_fm0 (M : FnM X.prog X.w X.K X.mg X.base C mn k n f modes) (hr : Room j X.A) (hk : k ≤ j) (tk : Takes X W) (ho : SE X W o mo)
    (ht : eval (.Call (.Attribute o mn apos) [] [] pos) X.env = (do
      let ov ← eval o X.env
      standAt apos.atName
      let (f, first) ← holding [ov] (getMethod ov mn pl)
      callWith pos f first (backTo pos (starEach [] X.env)) (backToKw pos (keywordEach [] X.env))) := by rfl) :
    SE X W (.Call (.Attribute o mn apos) [] [] pos) (eMeth C mn f mo aNil) := by
  obtain ⟨fd, ps, F, B, _⟩ := M.ex
  refine ⟨fun pins s σV H Q I q => PySem.W.methodCall_KW (pl := pl) (thn (ho.run pins s σV H _ I (t_recv (R := fun a H1 => spM X.K n f [.ref a] H1 Q (WE W σV)) M q fun w σ d a ok sl r p => ?_)) fun u s1 ⟨x, H1, I1, rx, a, dx, fv, ex, ea, l, c, q1⟩ => ?_) ht⟩
  · exact ⟨w, [d], rfl, ok, .cons r .nil, M.len _ _ (fun z => by
      have p : PR X.K (Rep X.K) w (f [d] w.st) Q (xk W σV) := p
      rw [z] at p; exact p), p⟩
  · subst ex
    obtain rfl : u = Value.ref a := rx
    refine getmeth_ok I1 ea c M.mt l ?_
    exact PySem.W.callWith_K0 (first := [.ref a]) I1.kIn M.mt.kp (run_fnS (us := [.ref a]) (vs := [.ref a]) (E := WE W) F (hr.mono hk) B (passAt tk σV) I1 (.cons rfl .nil) q1)
def eMethK (C mn : Str) (f : List D → Sto → Res D) (nk : Nat) (rv : Bool) (mo : Em) (mk : Am) : Em := fun σ st => (mo σ st).bind fun o st1 => if insOf C mn o st1 = true then (mk σ st1).bind fun bs st3 => if bs.length = nk then f (gB rv [o] bs) st3 else .bad else .bad
theorem se_fmK0 (M : FnM X.prog X.w X.K X.mg X.base C mn k n f modes) (hr : Room j X.A) (hk : k ≤ j) (tk : Takes X W) (ho : SE X W o mo) (hkw : SK X W kws mk) (hmd : (0, ks, rv) ∈ modes)
    (hall : (backToKw pos (keywordEach kws X.env)).all (·.1.isSome) = true := by rfl) (hks : (backToKw pos (keywordEach kws X.env)).filterMap (·.1) = ks := by rfl)
    (hpl : ((backTo pos (starEach [] X.env)).any (·.1) || (backToKw pos (keywordEach kws X.env)).any (·.1.isNone)) = false := by rfl)
    (ht : eval (.Call (.Attribute o mn apos) [] kws pos) X.env = (do
      let ov ← eval o X.env
      standAt apos.atName
      let (f, first) ← holding [ov] (getMethod ov mn pl)
      callWith pos f first (backTo pos (starEach [] X.env)) (backToKw pos (keywordEach kws X.env))) := by rfl) :
    SE X W (.Call (.Attribute o mn apos) [] kws pos) (eMethK C mn f ks.length rv mo mk) := by
  obtain ⟨fd, ps, F, B, KB⟩ := M.ex
  refine ⟨fun pins s σV H Q I q => PySem.W.methodCall_KW (pl := pl) (thn (ho.run pins s σV H _ I (t_recv (R := fun a H1 => TAm X.K mk W σV H1 fun zs H2 => zs.length = ks.length ∧ spM X.K n f (gB rv [.ref a] zs) H2 Q (WE W σV)) M q fun w σ d a ok sl r p => ?_)) fun u s1 ⟨x, H1, I1, rx, a, dx, fv, ex, ea, l, c, q1⟩ => ?_) ht⟩
  · refine ⟨w, σ, rfl, ok, sl, PR.bind ok p fun bs st vs mu H1 e1 s1 ok1 r1 p1 => ?_⟩
    by_cases hl : bs.length = ks.length
    · rw [if_pos hl] at p1
      exact ⟨r1.length.trans hl, ⟨mu, st, H1, w.op⟩, gB rv [d] bs, rfl, ok1, Reps.rev (.cons (r.step s1 ok) .nil) r1, M.len _ _ (fun z => by rw [z] at p1; exact p1), p1⟩
    · rw [if_neg hl] at p1
      exact p1.elim
  · subst ex
    obtain rfl : u = Value.ref a := rx
    refine getmeth_ok I1 ea c M.mt l ?_
    refine PySem.W.callWith_KW0 (h₀ := X.base) (first := [.ref a]) I1.ok.mod.kin M.mt.kp hall (thn (hkw.run pos pins s1 σV H1 _ I1 q1) fun ws s2 ⟨zs, H2, I2, rz, l2, q⟩ => ⟨I2.kIn, ?_⟩) hpl
    rw [hks]
    refine wpAny_call (codeAny_mono (F.run X.A X.stack s2 H2 ⟨[.ref a], ks.zip ws⟩ (gB rv [.ref a] ws) _ Q (WE W σV) (hr.mono hk) I2.env0 ((KB _ hmd).to s2 [.ref a] ws I2.kIn rfl (rz.length.symm.trans l2)) ((KB _ hmd).rel (show Vals [V.ref a] [Value.ref a] from .cons rfl .nil) rz) q) ?_)
    rintro (er | fl) s' hq
    · exact passAt tk σV pins H2 s2 er s' I2 hq
    · cases fl <;> first | exact I2.after hq | exact False.elim hq
/-- a static method, by keywords alone -/
structure FnStK (P : Program) (w : World) (K : Frag) (mg : Str → Option Value) (base : Heap) (C mn : Str) (k n : Nat) (f : List D → Sto → Res D) (modes : List (Nat × List Str × Bool)) : Prop where
  ex : ∃ (q g : Addr) (fd : FuncData) (ps : List Str), StM K (He.ga K C) mn q g ∧ PySem.W.keepIn K (.ref g) = true ∧ FnOk P w K mg base (CXp P w) k g fd ps (spM K n f) ∧ ∀ md ∈ modes, KBn K fd ps md.1 md.2.1 (gB md.2.2) (gB md.2.2)
  glo : mg C = some (.ref (He.ga K C))
  len : ∀ ds st, f ds st ≠ .bad → ds.length = n
theorem se_stK0 (M : FnStK X.prog X.w X.K X.mg X.base C mn k n f modes) (hr : Room j X.A) (hk : k ≤ j) (tk : Takes X W) (hkw : SK X W kws mk) (hmd : (0, ks, rv) ∈ modes)
    (hg : Gl X C := by rfl) (hdb : (C == ("__debug__" : Str)) = false := by decide)
    (hall : (backToKw pos (keywordEach kws X.env)).all (·.1.isSome) = true := by rfl) (hks : (backToKw pos (keywordEach kws X.env)).filterMap (·.1) = ks := by rfl)
    (hpl : ((backTo pos (starEach [] X.env)).any (·.1) || (backToKw pos (keywordEach kws X.env)).any (·.1.isNone)) = false := by rfl)
    (ht : eval (.Call (.Attribute (.Name C p0) mn apos) [] kws pos) X.env = (do
      let ov ← eval (.Name C p0) X.env
      standAt apos.atName
      let (f, first) ← holding [ov] (getMethod ov mn pl)
      callWith pos f first (backTo pos (starEach [] X.env)) (backToKw pos (keywordEach kws X.env))) := by rfl) :
    SE X W (.Call (.Attribute (.Name C p0) mn apos) [] kws pos) (eCallK f 0 ks.length rv aNil mk) := by
  obtain ⟨q0, g, fd, ps, S, hkp, F, KB⟩ := M.ex
  refine ⟨fun pins s σV H Q I q => PySem.W.methodCall_KW (pl := pl) (thn ((pe_glob (v := .ref (He.ga X.K C)) hg M.glo rfl hdb).run pins s σV H (fun x H1 => x = .ref (He.ga X.K C) ∧ H1 = H) I ⟨rfl, rfl⟩) fun u s1 ⟨x, H1, I1, rx, ex, eH⟩ => ?_) ht⟩
  subst ex eH
  obtain rfl : u = Value.ref (He.ga X.K C) := rx
  refine getst_ok I1 S fun s2 I2 => ?_
  have h2 := t_callK M.len q
  obtain ⟨w, σ', h1, ok, sl, pr⟩ := h2
  have z := PR.ret (R := Reps X.K) ok pr .nil
  rw [h1] at z
  refine PySem.W.callWith_KW0 (h₀ := X.base) (first := []) I.ok.mod.kin hkp hall ?_ hpl
  refine thn (hkw.run pos pins s2 σV _ _ I2 z) fun ws s3 ⟨zs, H2, I3, rz, l1, l2, q⟩ => ⟨I3.kIn, ?_⟩
  rw [hks]
  exact run_fnK (us := []) (vs := []) F (hr.mono hk) (KB _ hmd) (passAt tk σV) I3 .nil rz rfl (rz.length.symm.trans l2) q
/-- C(k = v, ..) -/
theorem se_mkPK0 {x : Str} {m : List D → Sto → Res D} (M : MkP X.prog X.w X.K X.mg X.base x k n m modes) (hr : Room j X.A) (hk : k + 1 ≤ j) (tk : Takes X W) (hkeep : PySem.W.keepIn X.K (.ref (He.ga X.K x)) = true) (hkw : SK X W kws mk) (hmd : (0, ks, rv) ∈ modes) (hg : Gl X x := by rfl) (hdb : (x == ("__debug__" : Str)) = false := by decide)
    (hall : (backToKw pos (keywordEach kws X.env)).all (·.1.isSome) = true := by rfl) (hks : (backToKw pos (keywordEach kws X.env)).filterMap (·.1) = ks := by rfl)
    (hpl : ((backTo pos (starEach [] X.env)).any (·.1) || (backToKw pos (keywordEach kws X.env)).any (·.1.isNone)) = false := by rfl) :
    SE X W (.Call (.Name x p) [] kws pos) (eMkP x m 0 ks.length rv aNil mk) := by
  obtain ⟨f, fd, ps, Mk0, F, B⟩ := M.ex
  refine ⟨fun pins s σ H Q I h => wpAny_Call_Name_kw (ld_glob I hg M.glo ?_ hdb)⟩
  have h2 := t_mkP M.ins M.len h
  obtain ⟨w, σ', h1, ok, sl, pr⟩ := h2
  have z := PR.ret (R := Reps X.K) ok pr .nil
  rw [h1] at z
  refine PySem.W.callWith_KW0 (h₀ := X.base) I.ok.mod.kin hkeep hall ?_ hpl
  refine thn (hkw.run pos pins s σ H _ I z) fun ws s2 ⟨zs, H2, I2, rz, l1, l2, q⟩ => ⟨I2.kIn, ?_⟩
  rw [hks]
  exact run_mkP (us := []) (vs := []) Mk0 F (hr.mono hk) (B _ hmd) (passAt tk σ) I2 .nil rz rfl (rz.length.symm.trans l2) q
end
end Sim

set_option Elab.async false
set_option linter.all false
set_option maxRecDepth 100000
set_option maxHeartbeats 4000000
/-! a call that only reads the lists handed over: what changes elsewhere is as it was -/
namespace Sim
open PySem PySem.Spec PyProof.Rows L2
def peek (st : Sto) : D → D
  | .ref n => (match st[n]? with
    | some (some (.lst ds)) => .lst ds
    | _ => .ref n)
  | d => d
def isRef : D → Bool
  | .ref _ => true
  | _ => false
def atomD : D → Bool
  | .non => true
  | .bl _ => true
  | .int _ => true
  | .str _ => true
  | _ => false
def brw (f : List D → Sto → Res D) : List D → Sto → Res D := fun ds st => if ds.any isRef = true then (if D.unds 0 (ds.map (peek st)) = true then (match f (ds.map (peek st)) [] with
    | .ok d [] => if atomD d = true then .ok d st else .bad
    | _ => .bad) else .bad) else f ds st
variable {K : Frag} {w : Wd}
theorem cut0_live {a : Addr} : ¬ Live (w.cut 0) a := fun ⟨n, o, h, _⟩ => by
  have h : (w.mu.take 0)[n]? = some a := h
  simp at h
theorem cut0_ok (ok : Ok K w) : Ok K (w.cut 0) := by
  refine ⟨by simp [Wd.cut], by simp [Wd.cut], fun a h => ?_, fun a h => ⟨?_, (ok.opn a h).2⟩, fun n a o h1 h2 => ?_, ok.tab⟩
  · have h : a ∈ w.mu.take 0 := h
    simp at h
  · show a ∉ w.mu.take 0
    simp
  · have h1 : (w.mu.take 0)[n]? = some a := h1
    simp at h1
theorem peek_rep (ok : Ok K w) {v : V} {d : D} (r : Rep K w v d) (h : D.und 0 (peek w.st d) = true) : Rep K (w.cut 0) v (peek w.st d) := by
  cases r with
  | @ref a n h1 =>
    unfold peek at h ⊢
    cases e : w.st[n]? with
    | none => simp only [e] at h; simp [D.und] at h
    | some o =>
      cases o with
      | none => simp only [e] at h; simp [D.und] at h
      | some o =>
        cases o with
        | ins C fs => simp only [e] at h; simp [D.und] at h
        | lst ds =>
          simp only [e] at h ⊢
          obtain ⟨vs, h2, h3⟩ := ok.obj n a _ h1 e
          exact .lst h2 cut0_live (fun z => (ok.opn a z).1 (List.mem_of_getElem? h1)) (Reps.cut h3 (by simpa [D.und] using h))
  | non => exact .non
  | bl b => exact .bl b
  | int i => exact .int i
  | str s => exact .str s
  | ty n => exact .ty n
  | tup h1 h2 h3 => exact Rep.cut (.tup h1 h2 h3) h
  | ktup h1 h2 => exact Rep.cut (.ktup h1 h2) h
  | lst h1 h2 h3 h4 => exact Rep.cut (.lst h1 h2 h3 h4) h
  | scr h1 h2 h3 h4 => exact Rep.cut (.scr h1 h2 h3 h4) h
  | kscr h1 h2 h3 => exact Rep.cut (.kscr h1 h2 h3) h
  | ins h1 h2 h3 h4 h5 => exact Rep.cut (.ins h1 h2 h3 h4 h5) h
  | exo h1 h2 h3 h4 h5 h6 h7 h8 => exact Rep.cut (.exo h1 h2 h3 h4 h5 h6 h7 h8) h
theorem peeks_rep (ok : Ok K w) : ∀ {vs : List V} {ds : List D}, Reps K w vs ds → D.unds 0 (ds.map (peek w.st)) = true → Reps K (w.cut 0) vs (ds.map (peek w.st))
  | _, _, .nil, _ => .nil
  | _, _, .cons r t, h => by
    simp only [List.map_cons, D.unds, Bool.and_eq_true] at h
    exact .cons (peek_rep ok r h.1) (peeks_rep ok t h.2)
theorem brw_sp {f : List D → Sto → Res D} {n : Nat} {vs : List V} {H : Hp} {Q : VK} {E : XK} (hn : ∀ ds st, f ds st ≠ .bad → ds.length = n) (h : spM K n (brw f) vs H Q E) : spM K n f vs H Q E := by
  obtain ⟨w, ds, rfl, ok, r, l, p⟩ := h
  unfold brw at p
  by_cases hr : ds.any isRef = true
  · rw [if_pos hr] at p
    by_cases hu : D.unds 0 (ds.map (peek w.st)) = true
    · rw [if_pos hu] at p
      refine ⟨w.cut 0, ds.map (peek w.st), rfl, cut0_ok ok, peeks_rep ok r hu, by rw [List.length_map]; exact l, ?_⟩
      show PR K (Rep K) (w.cut 0) (f (ds.map (peek w.st)) (w.st.take 0)) Q E
      rw [List.take_zero]
      cases e : f (ds.map (peek w.st)) [] with
      | bad => simp only [e] at p; exact p.elim
      | exc x st => simp only [e] at p; exact p.elim
      | ok d st =>
        simp only [e] at p
        cases st with
        | cons _ _ => exact p.elim
        | nil =>
          simp only at p
          by_cases ha : atomD d = true
          · rw [if_pos ha] at p
            intro b mu H' s o rb
            have s' : Step w ⟨w.mu, w.st, H', w.op⟩ := ⟨⟨[], by simp, by simp⟩, fun a o h _ hn => s.kp a o h cut0_live hn, fun _ h => h, Nat.le_refl _, fun a h => s.has a h, ⟨[], rfl, by simp⟩⟩
            have o' : Ok K ⟨w.mu, w.st, H', w.op⟩ := by
              refine ⟨ok.len, ok.nd, fun a h => ?_, fun a h => ⟨(ok.opn a h).1, s.has a (ok.opn a h).2⟩, fun m a ob h1 h2 => ?_, o.tab⟩
              · obtain ⟨ob, h1⟩ := ok.has a h
                have z := s.has a (not_none h1)
                cases q : H' a with
                | none => exact absurd q z
                | some ob' => exact ⟨ob', q⟩
              · have ro := ok.obj m a ob h1 h2
                cases ob with
                | lst ds =>
                  obtain ⟨vs, h3, h4⟩ := ro
                  exact ⟨vs, s.kp a _ h3 cut0_live (fun ps z => nomatch z), h4.step s' ok⟩
                | ins C fs =>
                  obtain ⟨dx, fv, h3, h4, h5⟩ := ro
                  exact ⟨dx, fv, s.kp a _ h3 cut0_live (fun ps z => nomatch z), h4.step s' ok, h5⟩
            refine p b w.mu H' s' o' ?_
            cases rb with
            | non => exact .non
            | bl b => exact .bl b
            | int i => exact .int i
            | str s => exact .str s
            | _ => cases ha
          · rw [if_neg ha] at p
            exact p.elim
    · rw [if_neg hu] at p
      exact p.elim
  · rw [if_neg hr] at p
    exact ⟨w, ds, rfl, ok, r, l, p⟩
theorem brw_len {f : List D → Sto → Res D} {n : Nat} (hn : ∀ ds st, f ds st ≠ .bad → ds.length = n) (ds : List D) (st : Sto) (h : brw f ds st ≠ .bad) : ds.length = n := by
  unfold brw at h
  by_cases hr : ds.any isRef = true
  · rw [if_pos hr] at h
    by_cases hu : D.unds 0 (ds.map (peek st)) = true
    · rw [if_pos hu] at h
      rw [← List.length_map (as := ds) (peek st)]
      refine hn _ [] fun z => ?_
      rw [z] at h
      exact h rfl
    · rw [if_neg hu] at h
      exact absurd rfl h
  · rw [if_neg hr] at h
    exact hn _ _ h
theorem Fn.brw {P : Program} {wd : World} {mg : Str → Option Value} {base : Heap} {x : Str} {k n : Nat} {f : List D → Sto → Res D} (F : Fn P wd K mg base x k n f) : Fn P wd K mg base x k n (brw f) := by
  obtain ⟨⟨fd, ps, G, B⟩, glo, kp, len⟩ := F
  exact ⟨⟨fd, ps, ⟨fun vs H Q E h => G.len vs H Q E (brw_sp len h), fun A outer s H args us vs Q E h1 h2 h3 h4 h5 => G.run A outer s H args us vs Q E h1 h2 h3 h4 (brw_sp len h5)⟩, B⟩, glo, kp, brw_len len⟩
end Sim

set_option Elab.async false
set_option linter.all false
set_option maxRecDepth 100000
set_option maxHeartbeats 4000000
/-! facts of classes with methods and operators; operators that only read lists -/
namespace Sim
open PySem PySem.Spec PyProof.Rows L2
variable {K : Frag}
theorem methB_ok {C : Addr} {m : Str} (h : methB K C m = true) : Meth K C m (He.ma K C m) := by
  unfold methB at h
  simp only [Bool.and_eq_true, decide_eq_true_eq] at h
  exact ⟨h.1, h.2.1, h.2.2⟩
theorem ownB_first {cs : List Str} (h : ownB K cs = true) {C : Str} (hC : C ∈ cs) : PySem.W.selfFirst K (He.ga K C) = true := (Bool.and_eq_true_iff.mp (List.all_eq_true.mp h C hC)).1
theorem ownB_nf {cs : List Str} (h : ownB K cs = true) {C : Str} (hC : C ∈ cs) : nfB K (He.ga K C) cs = true := (Bool.and_eq_true_iff.mp (List.all_eq_true.mp h C hC)).2
def isP (cs : List Str) (T : Str) : Tg → Option Bool
  | .b n => if n ∈ tyN then some false else none
  | .c C => if C ∈ cs then some (decide (C = T)) else none
theorem isP_ok {cs : List Str} (h : clsB K cs = true) {T : Str} (hT : T ∈ cs) (t : Tg) (b : Bool) (e : isP cs T t = some b) : PySem.W.kitOne K (t.val K) (.ref (He.ga K T)) = some b := by
  obtain ⟨h1, h2⟩ := Bool.and_eq_true_iff.mp (List.all_eq_true.mp h T hT)
  cases t with
  | b n =>
    unfold isP at e
    by_cases hn : n ∈ tyN
    · simp only [if_pos hn] at e
      rw [← e]
      exact of_decide_eq_true (List.all_eq_true.mp h1 n hn)
    · simp only [if_neg hn] at e; cases e
  | c C =>
    unfold isP at e
    by_cases hC : C ∈ cs
    · simp only [if_pos hC] at e
      rw [← e]
      exact of_decide_eq_true (List.all_eq_true.mp h2 C hC)
    · simp only [if_neg hC] at e; cases e
/-- an operator on values, with lists of the store read as values -/
def brw2 (g : D → D → Sto → Res D) : D → D → Sto → Res D := fun x y st => if (isRef x || isRef y) = true then (if (D.und 0 (peek st x) && D.und 0 (peek st y)) = true then (match g (peek st x) (peek st y) [] with
    | .ok d [] => if atomD d = true then .ok d st else .bad
    | _ => .bad) else .bad) else g x y st
theorem back_step {w : Wd} (ok : Ok K w) {mu : List Addr} {H' : Hp} (s : Step (w.cut 0) ⟨mu, [], H', w.op⟩) (o : Ok K ⟨mu, [], H', w.op⟩) : Step w ⟨w.mu, w.st, H', w.op⟩ ∧ Ok K ⟨w.mu, w.st, H', w.op⟩ := by
  have s' : Step w ⟨w.mu, w.st, H', w.op⟩ := ⟨⟨[], by simp, by simp⟩, fun a o h _ hn => s.kp a o h cut0_live hn, fun _ h => h, Nat.le_refl _, fun a h => s.has a h, ⟨[], rfl, by simp⟩⟩
  refine ⟨s', ok.len, ok.nd, fun a h => ?_, fun a h => ⟨(ok.opn a h).1, s.has a (ok.opn a h).2⟩, fun m a ob h1 h2 => ?_, o.tab⟩
  · obtain ⟨ob, h1⟩ := ok.has a h
    have z := s.has a (not_none h1)
    cases q : H' a with
    | none => exact absurd q z
    | some ob' => exact ⟨ob', q⟩
  · have ro := ok.obj m a ob h1 h2
    cases ob with
    | lst ds =>
      obtain ⟨vs, h3, h4⟩ := ro
      exact ⟨vs, s.kp a _ h3 cut0_live (fun ps z => nomatch z), h4.step s' ok⟩
    | ins C fs =>
      obtain ⟨dx, fv, h3, h4, h5⟩ := ro
      exact ⟨dx, fv, s.kp a _ h3 cut0_live (fun ps z => nomatch z), h4.step s' ok, h5⟩
theorem gop_brw {r : R2} {g : D → D → Sto → Res D} (hg : GOp K r g) : GOp K r (brw2 g) := fun w x y dx dy Q E ok rx ry p => by
  unfold brw2 at p
  by_cases hr : (isRef dx || isRef dy) = true
  · rw [if_pos hr] at p
    by_cases hu : (D.und 0 (peek w.st dx) && D.und 0 (peek w.st dy)) = true
    · rw [if_pos hu] at p
      obtain ⟨u1, u2⟩ := Bool.and_eq_true_iff.mp hu
      refine hg (w.cut 0) x y (peek w.st dx) (peek w.st dy) Q E (cut0_ok ok) (peek_rep ok rx u1) (peek_rep ok ry u2) ?_
      show PR K (Rep K) (w.cut 0) (g (peek w.st dx) (peek w.st dy) (w.st.take 0)) Q E
      rw [List.take_zero]
      cases e : g (peek w.st dx) (peek w.st dy) [] with
      | bad => simp only [e] at p; exact p.elim
      | exc x st => simp only [e] at p; exact p.elim
      | ok d st =>
        simp only [e] at p
        cases st with
        | cons _ _ => exact p.elim
        | nil =>
          simp only at p
          by_cases ha : atomD d = true
          · rw [if_pos ha] at p
            intro b mu H' s o rb
            obtain ⟨s', o'⟩ := back_step ok s o
            refine p b w.mu H' s' o' ?_
            cases rb with
            | non => exact .non
            | bl b => exact .bl b
            | int i => exact .int i
            | str s => exact .str s
            | _ => cases ha
          · rw [if_neg ha] at p
            exact p.elim
    · rw [if_neg hu] at p
      exact p.elim
  · rw [if_neg hr] at p
    exact hg w x y dx dy Q E ok rx ry p
section
variable {X : Cx} {W : WX} {k : Nat} {a b : Expr} {ma mb : Em} {pos : Pos}
theorem st_neB (hr : Room k X.A) (ha : SE X W a ma) (hb : SE X W b mb) : ST X W (.Compare a [.NotEq] [b] pos) (tOf (eBin (brw2 neD) ma mb)) := st_cmp (op_neD hr.units) (gop_brw gop_ne) ha hb (nomark _)
theorem st_eqB (hr : Room k X.A) (ha : SE X W a ma) (hb : SE X W b mb) : ST X W (.Compare a [.Eq] [b] pos) (tOf (eBin (brw2 eqD) ma mb)) := st_cmp (op_eqD hr.units) (gop_brw gop_eq) ha hb (nomark _)
theorem se_neB (hr : Room k X.A) (ha : SE X W a ma) (hb : SE X W b mb) : SE X W (.Compare a [.NotEq] [b] pos) (eBin (brw2 neD) ma mb) := se_cmp (op_neD hr.units) (gop_brw gop_ne) ha hb (nomark _)
end
end Sim

set_option Elab.async false
set_option linter.all false
set_option maxRecDepth 100000
set_option maxHeartbeats 4000000
/-! == of values that may be instances with an own == -/
namespace Sim
open PySem PySem.Spec PyProof.Rows L2
def OpS (X : Cx) (W : WX) (f : Value → Value → Sem Value) (g : D → D → Sto → Res D) : Prop :=
  ∀ (pins : List (Addr × Obj)) (s : Shared) (σV : L2.St) (x y : V) (v u : Value) (Q : VK) (w : Wd) (dx dy : D), Inv X pins σV w.H s → RelV x v → RelV y u → Ok X.K w → Rep X.K w x dx → Rep X.K w y dy → PR X.K (Rep X.K) w (g dx dy w.st) Q (xk W σV) →
    wpAny (model X.prog X.w) X.A (f v u) (EP X pins σV Q) X.xe s
section
variable {X : Cx} {W : WX} {C : Str} {j k : Nat} {f : List D → Sto → Res D} {modes : List (Nat × List Str × Bool)} {ma mb : Em} {a b : Expr} {pos : Pos} {g : D → D → Sto → Res D} {op : Value → Value → Sem Value}
theorem ops_base {r : R2} (ho : OpR X op r) (hg : GOp X.K r g) : OpS X W op g := fun pins s σV x y v u Q w dx dy I rx ry ok r1 r2 p => ho pins s σV w.H x y v u Q I rx ry (hg w x y dx dy Q _ ok r1 r2 p)
def eqX (C : Str) (cs : List Str) (f : List D → Sto → Res D) (g : D → D → Sto → Res D) : D → D → Sto → Res D := fun x y st => if isC C x st = true then eqO C cs f x y st else g x y st
theorem ops_eq {cs : List Str} (M : FnM X.prog X.w X.K X.mg X.base C "__eq__" k 2 f modes) (nf : nfB X.K (He.ga X.K C) cs = true) (hr : Room j X.A) (hk : k ≤ j) (tk : Takes X W) (h : OpS X W (compareOp .Eq) g) : OpS X W (compareOp .Eq) (eqX C cs f g) := by
  intro pins s σV x y v u Q w dx dy I rx ry ok r1 r2 p
  unfold eqX at p
  by_cases hc : isC C dx w.st = true
  · rw [if_pos hc] at p
    unfold eqO at p
    by_cases hi : isC C dx w.st = true ∧ okT cs dy w.st = true
    · rw [if_pos hi] at p
      obtain ⟨a1, dx', fx, rfl, h1, _⟩ := isC_ok M.hno ok r1 hi.1
      obtain ⟨t, h3, h4⟩ := okT_ok hi.2 nf
      exact run_eqO M hr hk tk I rx ry ⟨a1, dx', fx, rfl, h1, ⟨w, dy, t, rfl, ok, r2, h3, h4⟩, w, [dx, dy], rfl, ok, .cons r1 (.cons r2 .nil), M.len _ _ (fun z => by rw [z] at p; exact p), p⟩
    · rw [if_neg hi] at p
      exact p.elim
  · rw [if_neg hc] at p
    exact h pins s σV x y v u Q w dx dy I rx ry ok r1 r2 p
theorem t_ops {σV : L2.St} {H : Hp} {Q : VK} (q : TEm X.K (eBin g ma mb) W σV H Q) :
    TEm X.K ma W σV H fun x H1 => TEm X.K mb W σV H1 fun y H2 => ∃ (w : Wd) (dx dy : D), w.H = H2 ∧ Ok X.K w ∧ Rep X.K w x dx ∧ Rep X.K w y dy ∧ PR X.K (Rep X.K) w (g dx dy w.st) Q (xk W σV) := by
  obtain ⟨w, σ, rfl, ok, sl, p⟩ := q
  refine ⟨w, σ, rfl, ok, sl, PR.bind ok p fun d st x mu H1 e1 s1 ok1 r1 p1 => ?_⟩
  refine ⟨⟨mu, st, H1, w.op⟩, σ, rfl, ok1, sl.step s1 ok, PR.bind ok1 p1 fun d2 st2 y mu2 H2 e2 s2 ok2 r2 p2 => ?_⟩
  exact ⟨⟨mu2, st2, H2, w.op⟩, d, d2, rfl, ok2, r1.step s2 ok1, r2, p2⟩
theorem se_ops (h : OpS X W (compareOp .Eq) g) (ha : SE X W a ma) (hb : SE X W b mb) : SE X W (.Compare a [.Eq] [b] pos) (eBin g ma mb) := by
  refine ⟨fun pins s σV H Q I q => wpAny_Compare1 (binT ha hb I (t_ops q) fun v u s2 x y H2 I2 rx ry q2 => ?_) (nomark _)⟩
  obtain ⟨w, dx, dy, rfl, ok, r1, r2, p⟩ := q2
  exact h pins s2 σV x y v u Q w dx dy I2 rx ry ok r1 r2 p
theorem st_ops (h : OpS X W (compareOp .Eq) g) (ha : SE X W a ma) (hb : SE X W b mb) : ST X W (.Compare a [.Eq] [b] pos) (tOf (eBin g ma mb)) := by
  refine ⟨fun pins s σV H Q I q0 => ?_⟩
  refine wpAny_isTrue_Compare1 (binT ha hb I (t_ops (t_test q0)) fun v u s2 x y H2 I2 rx ry q2 => ?_) (nomark _)
  obtain ⟨w, dx, dy, rfl, ok, r1, r2, p⟩ := q2
  refine thn (h pins s2 σV x y v u _ w dx dy I2 rx ry ok r1 r2 p) fun c s3 ⟨z, H3, I3, r3, k, e, q3⟩ => ?_
  subst e
  cases r3
  exact wpAny_truthy_bool ⟨H3, I3, q3⟩
theorem ops_plain (hr : Room k X.A) : OpS X W (compareOp .Eq) eqD := ops_base (op_eqD hr.units) gop_eq
end
end Sim

set_option Elab.async false
set_option linter.all false
set_option maxRecDepth 100000
set_option maxHeartbeats 4000000
/-! enumerate of a tuple -/
namespace SimX
open PySem
open PySem.Sem (wp)
open PySem.AutoSeq1 (wpAny_loadPart')
theorem meets_enumerate_newT (l : Addr) (items : Array Value) (n : Nat) (dct : Option Addr) (sl : Array (Option Value)) :
    Meets (Builtin.«enumerate.__new__» ⟨[.type "enumerate", .ref l], []⟩) (fun _ R s => s.heap.get? l = some { cls := .type "tuple", dict := dct, data := .seq items n, slots := sl } ∧
      R (.ok (.ret (.ref (s.heap.push { cls := .type "tuple_iterator", data := .fields #[.ref l, .int 0 0] }).objs.size)))
        { s with heap := (s.heap.push { cls := .type "tuple_iterator", data := .fields #[.ref l, .int 0 0] }).push { cls := .type "enumerate", data := .fields #[.none, .bool false, .ref s.heap.objs.size, rawInt 0, .none, .none] } }) :=
  .of_wp fun prog w A R s h => by
    obtain ⟨hp, g, d, tk, os⟩ := s; obtain ⟨hl, h⟩ := h
    have hsub := sub_enumerate
    have hL : Heap.IsTuple (Shared.heap ⟨hp, g, d, tk, os⟩) l items := ⟨_, hl, rfl, n, rfl⟩
    wp_walk using wpAny_loadPart' hl
    refine wpAny_stack_any fun st => wpAny_pure ?_
    split
    · rename_i c _ _ _ _ _
      cases (c == Value.type "enumerate")
      · wp_walk using wpAny_loadPart' hl, wpAny_pyIter_tuple hL
        exact ⟨_, rfl, h⟩
      · wp_walk using wpAny_loadPart' hl, wpAny_pyIter_tuple hL
        exact ⟨_, rfl, h⟩
    · wp_walk using wpAny_loadPart' hl, wpAny_pyIter_tuple hL
      exact ⟨_, rfl, h⟩
section
variable {prog : Program} {w : World} {A : Around} {E : Value → Shared → Prop} {s : Shared}
theorem call_enumerate_tuple {l : Addr} {items : Array Value} {Q : Value → Shared → Prop} (hL : s.heap.IsTuple l items)
    (h : ∀ h', IsEnum h' (s.heap.objs.size + 1) s.heap.objs.size 0 .none → h'.IsTupleIter s.heap.objs.size l 0 → h'.objs.size = s.heap.objs.size + 2 →
      (∀ b o, s.heap.get? b = some o → h'.get? b = some o) → Q (.ref (s.heap.objs.size + 1)) { s with heap := h' }) :
    wpAny (model prog w) A (call (.type "enumerate") [.ref l]) Q E s := by
  obtain ⟨⟨c, dct, dt, sl⟩, hl, hc, n, hd⟩ := hL
  replace hc : c = .type "tuple" := hc
  replace hd : dt = .seq items n := hd
  subst hc hd
  refine callType_new F.called_enumerate (by decide) (F.typeCall_enumerate_1 _) (F.newCall_enumerate_1 _) (fun obj => F.args_object_init_2 obj _) F.entry_enumerate_new
    (meets_enumerate_newT l items n dct sl) ⟨hl, ?_⟩
  have hz : (s.heap.push { cls := .type "tuple_iterator", data := .fields #[.ref l, .int 0 0] }).objs.size = s.heap.objs.size + 1 := Heap.size_push ..
  show _ ∧ _
  rw [hz]
  have he : IsEnum ((s.heap.push { cls := .type "tuple_iterator", data := .fields #[.ref l, .int 0 0] }).push
      { cls := .type "enumerate", data := .fields #[.none, .bool false, .ref s.heap.objs.size, rawInt 0, .none, .none] }) (s.heap.objs.size + 1) s.heap.objs.size 0 .none := by
    have := Heap.get?_push_size (s.heap.push { cls := .type "tuple_iterator", data := .fields #[.ref l, .int 0 0] })
      (o := { cls := .type "enumerate", data := .fields #[.none, .bool false, .ref s.heap.objs.size, rawInt 0, .none, .none] }) rfl
    rw [hz] at this; exact this
  refine ⟨⟨_, he, rfl⟩, h _ he ⟨_, Heap.get?_push_of_some _ (Heap.get?_push_size _ rfl), rfl, rfl⟩ (by rw [Heap.size_push, hz]) fun b o x => Heap.get?_push_of_some _ (Heap.get?_push_of_some _ x)⟩
end
end SimX
namespace Sim
open PySem PySem.Spec PyProof.Rows L2 RT RZ
theorem next_enumT_end {prog : Program} {w : World} {A : Around} {E : Value → Shared → Prop} {s : Shared} {e it l : Addr} {i : Nat} {items : Array Value} {old : Value} {Q : Option Value → Shared → Prop} (hh : A.handled = none)
    (he : IsEnum s.heap e it i old) (hit : s.heap.IsTupleIter it l i) (hl : s.heap.IsTuple l items) (hx : items[i]? = none)
    (hQ : ∀ h', Heap.ExtBut it s.heap h' → Q none { s with heap := h' }) : wpAny (model prog w) A (pyNext (.ref e)) Q E s := by
  have hT : s.TypeIs (.ref e) "enumerate" := ⟨_, he, rfl⟩
  unfold pyNext
  refine wpAny_bind (wpAny_attempt (wpAny_callSpecial?_slot (name := Str.ofString "__next__") hT F.slot_enumerate_next
    (wpAny_call_entry F.slot_enumerate_next hT F.entry_enumerate_next ?_ (F.args_enumerate_next_1 _))))
  show wpAny _ _ (field (.ref e) 2 >>= _) _ _ _
  refine wpAny_bind (wpAny_field he rfl (x := .ref it) rfl ?_)
  refine wpAny_bind (nextOf_tuple_end hh hit hl hx fun h' x he' hx' => ?_)
  obtain ⟨o, ho, hc⟩ := hx'
  refine wpAny_bind (wpAny_isInstance (T := "StopIteration") (b := true) ⟨o, ho, hc⟩ isSubtype_stop ?_)
  exact wpAny_pure (hQ _ he')
/-- the tuple at a as it stands at each turn, each item in a new pair -/
def IteT (K : PySem.W.Frag) (a : Addr) : It :=
  ⟨fun i H => ∃ (xs : List V) (x : V), SqT K H a xs ∧ xs[i]? = some x, fun i H v H' => ∃ T x, v = .ref T ∧ H T = none ∧ H' = upd H T (.tup [.int (i : Nat), x]) ∧ ∀ xs, SqT K H a xs → xs[i]? = some x, fun i H => ∃ xs : List V, SqT K H a xs ∧ xs.length ≤ i⟩
theorem enum_ne_tup {h : Heap} {e it a : Addr} {i : Int} {old : Value} {its : Array Value} (he : IsEnum h e it i old) (p : h.IsTuple a its) : e ≠ a := fun z => by
  subst z
  obtain ⟨o, h1, h2, _⟩ := p
  have he : h.get? e = _ := he
  rw [he] at h1
  cases h1
  exact absurd h2 (by simp)
theorem turn_enumT {P : Program} {w : World} {K : PySem.W.Frag} {elts : List Expr} {kk : Nat} {tpos : Pos} (a e it : Addr) :
    Turn P w K (.Tuple elts kk tpos) (IteT K a) [e, it] e (fun i h => (∃ old, IsEnum h e it ((i : Nat) : Int) old) ∧ h.IsTupleIter it a i ∧ e ≠ it ∧ it ≠ a) where
  mem := by simp
  obj := fun i h st b hb => by
    obtain ⟨⟨old, he⟩, ⟨o, ho, hc, hd⟩, _⟩ := st
    have e' : b = e ∨ b = it := by simpa using hb
    rcases e' with z | z
    · rw [z]; exact ⟨_, he, fun v q => nomatch q⟩
    · rw [z]; exact ⟨o, ho, fun v q => by rw [hd] at q; cases q⟩
  keep := fun i h h' st k => let ⟨⟨old, he⟩, hi, hne⟩ := st; ⟨⟨old, k e (by simp) _ he⟩, hi.at fun o q => k it (by simp) o q, hne⟩
  item := by
    intro X hP hw hK hc i pins s σ H E I hf st hg
    subst hP hw hK
    obtain ⟨⟨old, he⟩, hit, hne, hna⟩ := st
    obtain ⟨xs, x, hq, hx⟩ := hg
    obtain ⟨its, rv, p, hz⟩ := I.tuple hq
    obtain ⟨u, hu, ru⟩ := rv.get hx
    have p' : s.heap.IsTuple a its.toArray := p
    have hea : e ≠ a := enum_ne_tup he p'
    have hel : e < s.heap.objs.size := Heap.lt_size he
    have hil : it < s.heap.objs.size := by obtain ⟨_, q, _⟩ := hit; exact Heap.lt_size q
    have hlt : i < its.toArray.size := by
      obtain ⟨h1, _⟩ := List.getElem?_eq_some_iff.mp hu
      simpa using h1
    have D := Draws.tuple (prog := X.prog) (w := X.w) (A := X.A.in1) (I.ok.hd hc) it a (Ne.symm hna) its.toArray
    refine wpAny_pyNext_enum_itemD D he ⟨hit, p'⟩ hlt hne (by simp [hne, hea]) fun u' h' tk hP ho hst' hT hsz hk => ?_
    have eu : u' = u := by
      have z : its.toArray[i]? = some u' := hP
      have z2 : its.toArray[i]? = some u := by simpa using hu
      rw [z2] at z
      exact (Option.some.inj z).symm
    subst eu
    refine ⟨_, rfl, wpAny_letOwnedTupleGo_enum (s := { s with heap := h', toks := tk + 1 }) ho fun h'' he' sb => ?_⟩
    have hT2 : h''.get? s.heap.objs.size = some { cls := .type "tuple", data := .seq #[.int i tk, u'] } := (sb.2 _ (Nat.ne_of_gt hel)).trans hT
    have new : ObjOk X.prog X.w (upd H s.heap.objs.size (.tup [.int (i : Nat), x])) h'' s.heap.objs.size (.tup [.int (i : Nat), x]) :=
      ⟨by show 2 ≤ sizeLine; decide, [.int i tk, u'], .cons ⟨_, rfl⟩ (.cons ru .nil), ⟨_, hT2, rfl, _, rfl⟩⟩
    have I1 : Inv X pins σ (upd H s.heap.objs.size (.tup [.int (i : Nat), x])) { s with heap := h'', toks := tk + 1 } :=
      I.turnedNew (ch := [e, it]) (fun b ob hb q => (sb.2 b (fun z => hb (by simp [z]))).trans (hk b ob (fun z => hb (by simp [z])) (fun z => hb (by simp [z])) q)) hf (Nat.le_refl _) new
    refine ⟨.ref s.heap.objs.size, _, I1, rfl, ⟨_, x, rfl, I.hok.fresh (Nat.le_refl _), rfl, fun ys hy => by rw [I.tuple_inj hy hq]; exact hx⟩, ⟨⟨u', ?_⟩, hst'.1.at fun o q => (sb.2 it (Ne.symm hne)).trans q, hne, hna⟩, fun b hb => ?_⟩
    · have e1 : ((i + 1 : Nat) : Int) = (i : Int) + 1 := by omega
      rw [e1]; exact he'
    · have hb' : b < s.heap.objs.size := by
        have e' : b = e ∨ b = it := by simpa using hb
        rcases e' with z | z
        · rw [z]; exact hel
        · rw [z]; exact hil
      rw [upd_ne (Nat.ne_of_lt hb')]
      exact (hf b hb).1
  done := by
    intro X hP hw hK hc i pins s σ H E I hf st hg
    subst hP hw hK
    obtain ⟨⟨old, he⟩, hit, hne, hna⟩ := st
    obtain ⟨xs, hq, hx⟩ := hg
    obtain ⟨its, rv, p, hz⟩ := I.tuple hq
    obtain ⟨f0, f1, f2, f3, f4, f5⟩ := hf it (by simp)
    have hl := rv.length
    exact next_enumT_end (I.ok.hd hc) he hit (show s.heap.IsTuple a its.toArray from p) (by simp; omega) fun h' eb => ⟨rfl, I.turned (t' := s.toks) (fun b o hb q => eb b o hb q) f0 f1 f3 f4 f5⟩
  self := fun A i s Q E st h => let ⟨⟨_, he⟩, _⟩ := st; wpAny_pyIter_enum he h
def iEnum2 (K : PySem.W.Frag) (ta : TA) : TI := fun σ H R => ta σ H fun vs H1 => ∃ a, vs = [.ref a] ∧ ((∃ xs, SqL K H1 a xs ∧ R (Ite K a) H1) ∨ ∃ xs, SqT K H1 a xs ∧ R (IteT K a) H1)
theorem pi_enum2 {X : Cx} {e : Expr} {ta : TA} {p pos tpos : Pos} {elts : List Expr} {kk : Nat} (hg : Gl X "enumerate") (hm : X.mg "enumerate" = none) (ha : PA X [e] ta) (hs : starEach [e] X.env = [(false, eval e X.env)] := by rfl) :
    PI X (.Tuple elts kk tpos) (.Call (.Name "enumerate" p) [e] [] pos) (iEnum2 X.K ta) := by
  refine ⟨fun pins s σ H R I h => ?_⟩
  refine Call_ (ld_blt I hg hm boot_enumerate (PyProof.Rows.callWith_type1 (thn (ha.run pos pins s σ H _ I h) fun us s1 ⟨vs, H1, I1, r1, q1⟩ => ?_) hs rfl))
  obtain ⟨a, ex, q⟩ := q1
  subst ex
  cases r1 with
  | cons r rr =>
    cases rr
    cases r
    have fin : ∀ b, (b = s1.heap.objs.size + 1 ∨ b = s1.heap.objs.size) → s1.heap.objs.size ≤ b := fun b e' => by
      rcases e' with z | z
      · rw [z]; exact Nat.le_add_right _ _
      · rw [z]; exact Nat.le_refl _
    rcases q with ⟨xs, hq, q⟩ | ⟨xs, hq, q⟩
    · obtain ⟨its, rv, p', hz⟩ := I1.list hq
      refine call_enumerate_list p'.isList fun h' he hit hsz hk => wpAny_pyIter_enum he ?_
      have I2 : Inv X pins σ H1 { s1 with heap := h' } := I1.kept (t' := s1.toks) hk
      refine ⟨s1.heap.objs.size + 1, [s1.heap.objs.size + 1, s1.heap.objs.size], _, _, H1, rfl, I2, turn_enum a (s1.heap.objs.size + 1) s1.heap.objs.size, ⟨⟨.none, he⟩, hit, Nat.succ_ne_self _⟩, fun b hb => ?_, q⟩
      have hle := fin b (by simpa using hb)
      exact I1.fpOk hle (I1.hok.fresh hle)
    · obtain ⟨its, rv, p', hz⟩ := I1.tuple hq
      have p2 : s1.heap.IsTuple a its.toArray := p'
      have hna : s1.heap.objs.size ≠ a := by
        obtain ⟨o, h1, _⟩ := p2
        exact Nat.ne_of_gt (Heap.lt_size h1)
      refine SimX.call_enumerate_tuple p2 fun h' he hit hsz hk => wpAny_pyIter_enum he ?_
      have I2 : Inv X pins σ H1 { s1 with heap := h' } := I1.kept (t' := s1.toks) hk
      refine ⟨s1.heap.objs.size + 1, [s1.heap.objs.size + 1, s1.heap.objs.size], _, _, H1, rfl, I2, turn_enumT a (s1.heap.objs.size + 1) s1.heap.objs.size, ⟨⟨.none, he⟩, hit, Nat.succ_ne_self _, hna⟩, fun b hb => ?_, q⟩
      have hle := fin b (by simpa using hb)
      exact I1.fpOk hle (I1.hok.fresh hle)
theorem walk_enumT {K : PySem.W.Frag} {a : Addr} {xs : List V} : Walk (IteT K a) xs.length (fun H => SqT K H a xs) (YPair (fun i => some (.int (i : Nat))) (fun i => xs[i]?)) := by
  refine ⟨fun i _ hi q => ⟨xs, xs[i], q, by simp [hi]⟩, fun _ q => ⟨xs, q, Nat.le_refl _⟩, fun i H v H' _ q y => ?_⟩
  obtain ⟨T, x, h1, h2, h3, h4⟩ := y
  exact ⟨T, .int (i : Nat), x, h1, h2, h3, rfl, h4 xs q⟩
@[simp] def iEnum2M (m : Am) : Im := fun σ st => (m σ st).bind fun ds st1 => match ds with
  | [.lst xs] => .ok (enumD 0 xs) st1
  | [.tup xs] => .ok (enumD 0 xs) st1
  | _ => .bad
theorem si_enum2 {X : Cx} {W : WX} {e : Expr} {m : Am} {p pos tpos : Pos} {elts : List Expr} {kk : Nat} (hm : X.mg "enumerate" = none) (ha : SA X W [e] m) (hg : Gl X "enumerate" := by rfl) (hs : starEach [e] X.env = [(false, eval e X.env)] := by rfl) :
    SI X W (.Tuple elts kk tpos) (.Call (.Name "enumerate" p) [e] [] pos) (iEnum2M m) :=
  pi_imp (pi_enum2 hg hm ha hs) fun σV H R q => by
    obtain ⟨w, σ, rfl, ok, sl, p⟩ := q
    refine ⟨w, σ, rfl, ok, sl, PR.bind ok p fun ds st vs mu H1 e1 s1 ok1 r1 p1 => ?_⟩
    cases r1 with
    | nil => exact p1.elim
    | cons r t =>
      cases t with
      | cons _ _ => cases r <;> exact p1.elim
      | nil =>
        cases r with
        | @lst a us xs h hl ho hs =>
          refine ⟨a, rfl, .inl ⟨us, .inl (.inl h), PR.ret (w := ⟨mu, st, H1, w.op⟩) (R := fun w J items => Wk X.K w J items) ok1 p1 (wk_pairs (by rw [enumD_len, hs.length]) walk_enum (fun w' s o => .inl (.inl (s.keep _ _ h hl))) fun i d x y hd hx hy => ?_)⟩⟩
          obtain ⟨e, h1, h2⟩ := enumD_get 0 xs i d hd
          obtain ⟨u, h3, h4⟩ := hs.get h1
          rw [h3] at hy; cases hy
          cases hx
          refine ⟨.int (i : Nat), e, by rw [h2, Nat.zero_add], fun w' s o => ⟨.int _, h4.step s ok1⟩⟩
        | @tup a us xs h ho hs =>
          refine ⟨a, rfl, .inr ⟨us, .inl h, PR.ret (w := ⟨mu, st, H1, w.op⟩) (R := fun w J items => Wk X.K w J items) ok1 p1 (wk_pairs (by rw [enumD_len, hs.length]) walk_enumT (fun w' s o => .inl (s.rdT ok1 h)) fun i d x y hd hx hy => ?_)⟩⟩
          obtain ⟨e, h1, h2⟩ := enumD_get 0 xs i d hd
          obtain ⟨u, h3, h4⟩ := hs.get h1
          rw [h3] at hy; cases hy
          cases hx
          refine ⟨.int (i : Nat), e, by rw [h2, Nat.zero_add], fun w' s o => ⟨.int _, h4.step s ok1⟩⟩
        | @ktup a us xs h hs =>
          refine ⟨a, rfl, .inr ⟨us, h _, PR.ret (w := ⟨mu, st, H1, w.op⟩) (R := fun w J items => Wk X.K w J items) ok1 p1 (wk_pairs (by rw [enumD_len, hs.length]) walk_enumT (fun w' s o => h _) fun i d x y hd hx hy => ?_)⟩⟩
          obtain ⟨e, h1, h2⟩ := enumD_get 0 xs i d hd
          obtain ⟨u, h3, h4⟩ := hs.get h1
          rw [h3] at hy; cases hy
          cases hx
          refine ⟨.int (i : Nat), e, by rw [h2, Nat.zero_add], fun w' s o => ⟨.int _, h4.step s ok1⟩⟩
        | _ => exact p1.elim
end Sim

set_option Elab.async false
set_option linter.all false
set_option maxRecDepth 100000
set_option maxHeartbeats 4000000
/-! == of two lists with instances that have an own ==, where it gives True -/
namespace Sim
open PySem PySem.Spec PyProof.Rows L2
def sayT : Res D → Bool
  | .ok (.bl true) [] => true
  | _ => false
def elB (C : Str) (f : List D → Sto → Res D) : D → D → Bool
  | .str s, .str t => decide (s = t)
  | .int i, .int j => decide (i = j)
  | .ins c fs, .ins c' fs' => decide (c = C) && (decide (c' = C) && sayT (f [.ins c fs, .ins c' fs'] []))
  | _, _ => false
def elsB (C : Str) (f : List D → Sto → Res D) : List D → List D → Bool
  | [], [] => true
  | a :: as, b :: bs => elB C f a b && elsB C f as bs
  | _, _ => false
def eqLs (C : Str) (f : List D → Sto → Res D) : D → D → Sto → Res D := fun x y st => match x, y with
  | .lst as, .lst bs => if (D.unds 0 as && (D.unds 0 bs && elsB C f as bs)) = true then .ok (.bl true) st else .bad
  | _, _ => .bad
theorem sayT_eq {r : Res D} (h : sayT r = true) : r = .ok (.bl true) [] := by
  unfold sayT at h
  split at h
  · rfl
  · cases h
theorem elsB_len {C : Str} {f : List D → Sto → Res D} : ∀ {as bs : List D}, elsB C f as bs = true → as.length = bs.length ∧ ∀ (i : Nat) (a b : D), as[i]? = some a → bs[i]? = some b → elB C f a b = true
  | [], [], _ => ⟨rfl, fun i a b h _ => by simp at h⟩
  | [], _ :: _, h => by cases h
  | _ :: _, [], h => by cases h
  | x :: as, y :: bs, h => by
    obtain ⟨h1, h2⟩ := Bool.and_eq_true_iff.mp (show (elB C f x y && elsB C f as bs) = true from h)
    obtain ⟨l, e⟩ := elsB_len h2
    refine ⟨by simp [l], fun i a b ha hb => ?_⟩
    cases i with
    | zero => simp at ha hb; subst ha; subst hb; exact h1
    | succ i => exact e i a b (by simpa using ha) (by simpa using hb)
theorem Reps.at_ {K : Frag} {w : Wd} : ∀ {vs : List V} {ds : List D}, Reps K w vs ds → ∀ {i : Nat} {v : V}, vs[i]? = some v → ∃ d, ds[i]? = some d ∧ Rep K w v d
  | _, _, .nil, i, v, h => by simp at h
  | _, _, .cons r t, 0, v, h => by simp at h; subst h; exact ⟨_, rfl, r⟩
  | _, _, .cons r t, i + 1, v, h => by simpa using t.at_ (i := i) (by simpa using h)
theorem Reps.len_ {K : Frag} {w : Wd} : ∀ {vs : List V} {ds : List D}, Reps K w vs ds → vs.length = ds.length
  | _, _, .nil => rfl
  | _, _, .cons _ t => by simp [t.len_]
section
variable {X : Cx} {W : WX} {C : Str} {j k : Nat} {f : List D → Sto → Res D} {modes : List (Nat × List Str × Bool)}
abbrev Wd0 (H : Hp) (op : List Addr) : Wd := ⟨[], [], H, op⟩
theorem el_run (M : FnM X.prog X.w X.K X.mg X.base C "__eq__" k 2 f modes) (hr : Room j X.A) (hk : k + 1 ≤ j) (tk : Takes X W) {pins : List (Addr × Obj)} {σV : L2.St} {s : Shared} {H : Hp} {op : List Addr} (I : Inv X pins σV H s) (ok : Ok X.K (Wd0 H op)) {x y : V} {dx dy : D} {v u : Value}
    (r1 : Rep X.K (Wd0 H op) x dx) (r2 : Rep X.K (Wd0 H op) y dy) (e : elB C f dx dy = true) (rx : RelV x v) (ry : RelV y u) :
    wpAny (model X.prog X.w) X.A.in1 (eqBool v u) (fun r s' => r = true ∧ ∃ H', Inv X pins σV H' s' ∧ Step (Wd0 H op) (Wd0 H' op) ∧ Ok X.K (Wd0 H' op)) X.xe s := by
  unfold elB at e
  split at e
  · rename_i s1 s2
    have e := of_decide_eq_true e
    subst e
    cases r1
    cases r2
    exact (PySem.SeqAt.EqAt.eqP (eqAt_same rx ry rfl)) _ _ ⟨rfl, H, I, Step.refl _, ok⟩
  · rename_i s1 s2
    have e := of_decide_eq_true e
    subst e
    cases r1
    cases r2
    exact (PySem.SeqAt.EqAt.eqP (eqAt_same rx ry rfl)) _ _ ⟨rfl, H, I, Step.refl _, ok⟩
  · rename_i c fs c' fs'
    obtain ⟨h1, e⟩ := Bool.and_eq_true_iff.mp e
    obtain ⟨h2, e⟩ := Bool.and_eq_true_iff.mp e
    have e := sayT_eq e
    obtain ⟨a1, d1, f1, rfl, g1, _⟩ := isC_ok (w := Wd0 H op) M.hno ok r1 h1
    obtain ⟨a2, d2, f2, rfl, g2, _⟩ := isC_ok (w := Wd0 H op) M.hno ok r2 h2
    cases rx
    cases ry
    by_cases hab : a1 = a2
    · subst hab
      exact PySem.SeqAt.EqAt.same (A := X.A.in1) (s := s) (.ref a1) X.prog X.w X.xe _ ⟨rfl, H, I, Step.refl _, ok⟩
    · refine GQ.eqBool_refG hab ?_
      obtain ⟨fd, ps, F, B, _⟩ := M.ex
      obtain ⟨mA, J, _⟩ := ins_get I.hok g1
      obtain ⟨mB, J', _⟩ := ins_get I.hok g2
      obtain ⟨od, J, _⟩ := J.look
      obtain ⟨od', J', _⟩ := J'.look
      obtain ⟨m0, hF⟩ := I.fr
      have rm : Room k X.A.in1 := (hr.mono hk).in1
      have hs : spM X.K 2 f [.ref a1, .ref a2] H (fun v H' => v = .bl true ∧ Step (Wd0 H op) (Wd0 H' op) ∧ Ok X.K (Wd0 H' op)) (WE W σV) := by
        refine ⟨Wd0 H op, [.ins c fs, .ins c' fs'], rfl, ok, .cons r1 (.cons r2 .nil), rfl, ?_⟩
        show PR X.K (Rep X.K) (Wd0 H op) (f [.ins c fs, .ins c' fs'] []) _ _
        rw [e]
        intro b mu H' s' o' rb
        have hm : mu = [] := List.eq_nil_of_length_eq_zero o'.len
        subst hm
        cases rb
        exact ⟨rfl, s', o'⟩
      refine PySem.W.cmp_K (op := .Eq) (tb := .ref (He.ga X.K C)) rm.units0 hF I.ok.mod.kin J J'.type (by simp [PySem.W.notFirst]) M.mt.at_ M.mt.fn ?_
      refine wpAny_mono (run_fnA (A := X.A.in1) (us := [.ref a1, .ref a2]) (vs := [.ref a1, .ref a2]) (E := WE W σV) rm rfl F B (passAt tk σV) I (.cons rfl (.cons rfl .nil)) hs) (fun v s' z => ?_) fun _ _ x => x
      obtain ⟨z, H', I', rz, ez, q1, q2⟩ := z
      subst ez
      cases rz
      exact ⟨true, rfl, rfl, H', I', q1, q2⟩
  · cases e
theorem ops_ls (M : FnM X.prog X.w X.K X.mg X.base C "__eq__" k 2 f modes) (hr : Room j X.A) (hk : k + 1 ≤ j) (tk : Takes X W) : OpS X W (compareOp .Eq) (eqLs C f) := by
  intro pins s σV x y v u Q w dx dy I rx ry ok r1 r2 p
  unfold eqLs at p
  split at p
  · rename_i as bs
    by_cases hc : (D.unds 0 as && (D.unds 0 bs && elsB C f as bs)) = true
    · rw [if_pos hc] at p
      obtain ⟨u1, hc⟩ := Bool.and_eq_true_iff.mp hc
      obtain ⟨u2, hc⟩ := Bool.and_eq_true_iff.mp hc
      obtain ⟨hl, he⟩ := elsB_len hc
      cases r1 with
      | @lst a vs _ h1 _ _ rs =>
        cases r2 with
        | @lst b ws _ h2 _ _ ts =>
          cases rx
          cases ry
          have rs0 := Reps.cut rs u1
          have ts0 := Reps.cut ts u2
          have ok0 := cut0_ok ok
          have w0 : w.cut 0 = Wd0 w.H w.op := by unfold Wd.cut; simp
          rw [w0] at rs0 ts0 ok0
          have hlen : vs.length = ws.length := by rw [rs0.len_, ts0.len_, hl]
          show wpAny (model X.prog X.w) X.A (richCompare .Eq (.ref a) (.ref b)) (EP X pins σV Q) X.xe s
          refine GQ.rc_listG (N := vs.length) hr.units0 (fun _ s' => ∃ H', Inv X pins σV H' s' ∧ Step (Wd0 w.H w.op) (Wd0 H' w.op) ∧ Ok X.K (Wd0 H' w.op)) (fun i s' q => ?_) (fun s' q => ?_) ⟨w.H, I, Step.refl _, ok0⟩
          · obtain ⟨H1, I1, st1, ok1⟩ := q
            have nl : ∀ a, ¬ Live (Wd0 w.H w.op) a := fun a ⟨n, o, h, _⟩ => by simp at h
            have g1 : H1 a = some (.lst vs) := st1.kp a _ h1 (nl a) (fun ps z => nomatch z)
            have g2 : H1 b = some (.lst ws) := st1.kp b _ h2 (nl b) (fun ps z => nomatch z)
            obtain ⟨z, its, n1, r, e⟩ := I1.hok a _ g1
            obtain ⟨z2, its2, n2, r2, e2⟩ := I1.hok b _ g2
            refine ⟨its.toArray, its2.toArray, n1, n2, e, e2, by rw [List.size_toArray, ← r.length], by rw [List.size_toArray, ← r2.length, ← hlen], fun q1 q2 => ?_⟩
            have k1 : i < vs.length := by rw [r.length]; simpa using q1
            have k2 : i < ws.length := by rw [r2.length]; simpa using q2
            obtain ⟨d1, hd1, rd1⟩ := rs0.at_ (List.getElem?_eq_getElem k1)
            obtain ⟨d2, hd2, rd2⟩ := ts0.at_ (List.getElem?_eq_getElem k2)
            obtain ⟨v1, hv1, rv1⟩ := r.get (List.getElem?_eq_getElem k1)
            obtain ⟨v2, hv2, rv2⟩ := r2.get (List.getElem?_eq_getElem k2)
            have m1 : its[i]? = some its.toArray[i] := by
              have h1' : i < its.length := by simpa using q1
              rw [List.getElem?_eq_getElem h1'] <;> simp
            have m2 : its2[i]? = some its2.toArray[i] := by
              have h2' : i < its2.length := by simpa using q2
              rw [List.getElem?_eq_getElem h2'] <;> simp
            rw [m1] at hv1
            rw [m2] at hv2
            rw [Option.some.inj hv1, Option.some.inj hv2]
            refine wpAny_mono (el_run M hr hk tk I1 ok1 (rd1.step st1 ok0) (rd2.step st1 ok0) (he i d1 d2 hd1 hd2) rv1 rv2) (fun r s2 q => ?_) fun _ _ x => x
            obtain ⟨hr', H2, I2, st2, ok2⟩ := q
            exact ⟨hr', H2, I2, st1.trans st2 ok0, ok2⟩
          · obtain ⟨H1, I1, st1, ok1⟩ := q
            rw [← w0] at st1
            obtain ⟨s', o'⟩ := back_step ok st1 ok1
            exact ⟨.bl true, H1, I1, rfl, p (.bl true) w.mu H1 s' o' (.bl true)⟩
    · rw [if_neg hc] at p
      exact p.elim
  · exact p.elim
end
/-! ### list != [] -/
def lsOf : D → Sto → Option (List D)
  | .lst ds, _ => some ds
  | .ref n, st => (match st[n]? with
    | some (some (.lst ds)) => some ds
    | _ => none)
  | _, _ => none
def neE : D → D → Sto → Res D := fun x y st => match lsOf x st, y with
  | some ds, .lst [] => .ok (.bl (!ds.isEmpty)) st
  | _, _ => .bad
def rNeE : R2 := fun x y H Q => ∃ a b xs, x = .ref a ∧ y = .ref b ∧ H a = some (.lst xs) ∧ H b = some (.lst []) ∧ Q (.bl (!xs.isEmpty)) H
theorem op_neE {X : Cx} (hu : X.A.units < cLine) : OpR X (compareOp .NotEq) rNeE := by
  intro pins s σ H x y v u Q I rx ry h
  obtain ⟨a, b, xs, rfl, rfl, ha, hb, q⟩ := h
  cases rx
  cases ry
  obtain ⟨us, r1, p1, _⟩ := I.list (SqL.of (K := X.K) ha)
  obtain ⟨ws, r2, p2, _⟩ := I.list (SqL.of (K := X.K) hb)
  have hw : ws = [] := by cases r2; rfl
  subst hw
  show wpAny (model X.prog X.w) X.A (richCompare .NotEq (.ref a) (.ref b)) (EP X pins σ Q) X.xe s
  cases xs with
  | nil =>
    have hv : us = [] := by cases r1; rfl
    subst hv
    exact SeqAt.RcNeAt.lists (e := fun _ => true) p1.isList p2.isList rfl hu (fun j h1 _ => by simp at h1) X.prog X.w X.xe _ ⟨.bl false, H, I, rfl, q⟩
  | cons z zs =>
    have hl : us.length = zs.length + 1 := by rw [← r1.length]; rfl
    exact SeqAt.RcNeAt.lists_lengths p1.isList p2.isList (by
      have : us.toArray.size ≠ 0 := by rw [List.size_toArray]; omega
      simpa using this) hu X.prog X.w X.xe _ ⟨.bl true, H, I, rfl, q⟩
theorem gop_neE {K : Frag} : GOp K rNeE neE := fun w x y dx dy Q E ok rx ry p => by
  unfold neE at p
  cases e : lsOf dx w.st with
  | none => simp only [e] at p; exact p.elim
  | some ds =>
    simp only [e] at p
    have hx : ∃ a vs, x = .ref a ∧ w.H a = some (.lst vs) ∧ Reps K w vs ds := by
      cases rx with
      | @lst a vs _ h1 _ _ rs =>
        cases e
        exact ⟨a, vs, rfl, h1, rs⟩
      | @ref a n h1 =>
        unfold lsOf at e
        cases q : w.st[n]? with
        | none => simp only [q] at e; cases e
        | some o =>
          cases o with
          | none => simp only [q] at e; cases e
          | some o =>
            cases o with
            | ins C fs => simp only [q] at e; cases e
            | lst ds' =>
              simp only [q] at e
              cases e
              obtain ⟨vs, h2, h3⟩ := ok.obj n a _ h1 q
              exact ⟨a, vs, rfl, h2, h3⟩
      | _ => cases e
    obtain ⟨a, vs, rfl, h1, rs⟩ := hx
    cases ry with
    | @lst b ws ds2 h2 _ _ ts =>
      cases ts with
      | cons _ _ => exact p.elim
      | nil =>
        simp only at p
        refine ⟨a, b, vs, rfl, rfl, h1, h2, ?_⟩
        have hl : vs.isEmpty = ds.isEmpty := by
          cases rs with
          | nil => rfl
          | cons _ _ => rfl
        rw [hl]
        exact p (.bl _) w.mu w.H (Step.refl w) ok (.bl _)
    | _ => exact p.elim
section
variable {X : Cx} {W : WX} {ma mb : Em} {a b : Expr} {pos : Pos} {k : Nat}
theorem st_neE (hr : Room k X.A) (ha : SE X W a ma) (hb : SE X W b mb) : ST X W (.Compare a [.NotEq] [b] pos) (tOf (eBin neE ma mb)) := st_cmp (op_neE hr.units0) gop_neE ha hb (nomark _)
theorem se_neE (hr : Room k X.A) (ha : SE X W a ma) (hb : SE X W b mb) : SE X W (.Compare a [.NotEq] [b] pos) (eBin neE ma mb) := se_cmp (op_neE hr.units0) gop_neE ha hb (nomark _)
end
/-! ### a comprehension inside a comprehension -/
def relS (so sc0 : Scope) : Scope := { so with names := so.names.map fun (n, k) => if (k == .free && sc0.kind == .function && sc0.names.lookup n == some .cell) then (n, .cell) else (n, k) }
theorem relS_eq (so : Scope) (env : Env) : relabel so env = relS so env.scope := rfl
theorem blkOk_nest {N : List Str} {env : Env} {so sc0 si : Scope} {own : List (Str × Nat)} (he : env.scope = sc0) (h : blkC N (relS so sc0) si own = true) : BlkOk N (relabel so env) si own := by
  rw [relS_eq, he]
  exact blkOk_by h
end Sim

set_option Elab.async false
set_option linter.all false
set_option maxRecDepth 100000
set_option maxHeartbeats 4000000

namespace K10
open PySem PySem.Spec PyProof.Rows L2 Sim
theorem anc_ok : ∀ C ∈ leafs, C ∈ ancO C ∧ ∀ A ∈ ancO C, A ∈ owns := by
  have h : (leafs.all fun C => (ancO C).contains C && (ancO C).all fun A => owns.contains A) = true := by decide +kernel
  intro C hC
  have z := List.all_eq_true.mp h C hC
  obtain ⟨h1, h2⟩ := Bool.and_eq_true_iff.mp z
  exact ⟨by simpa using h1, fun A hA => by simpa using List.all_eq_true.mp h2 A hA⟩
structure Ev (K : Frag) (mg : Str → Option Value) (base : Heap) : Prop where
  s : He5.SaysA fa fn K
  x : ∀ f ∈ xs, f K = true
  g : ∀ x ∈ gnames, mg x = some (.ref (He.ga K x))
  f : ∀ x ∈ fnames, mg x = none
  b : ∀ e ∈ gblL, mg e.1 = some (.builtin e.2)
  t : ∀ x ∈ tabN, LamX.TabB base mg (He.cT K (x, none)).1 (He.cT K (x, none)).2
section
variable {K : Frag} {mg : Str → Option Value} {base : Heap}
theorem Ev.ix (ev : Ev K mg base) (i : Nat) {f : Frag → Bool} (h : xs[i]? = some f) : f K = true := ev.x f (List.mem_of_getElem? h)
theorem Ev.says (ev : Ev K mg base) : He5.SaysA fa fn K := ev.s
theorem Ev.glo (ev : Ev K mg base) (x : Str) (h : x ∈ gnames := by decide +kernel) : mg x = some (.ref (He.ga K x)) := ev.g x h
theorem Ev.free (ev : Ev K mg base) (x : Str) (h : x ∈ fnames := by decide +kernel) : mg x = none := ev.f x h
theorem Ev.gbl (ev : Ev K mg base) (x : Str) {id : String} (h : (x, id) ∈ gblL := by decide +kernel) : mg x = some (.builtin id) := ev.b _ h
theorem Ev.inf (ev : Ev K mg base) {e : Str × List Str} (h : e ∈ insL) : InF K e.1 e.2 := insB_ok (List.all_eq_true.mp (ev.ix 0 (f := fun K => insL.all fun e => insB K (He.ga K e.1) e.2) rfl) e h)
theorem Ev.stm (ev : Ev K mg base) {e : Str × Str} (h : e ∈ stmL) : StM K (He.ga K e.1) e.2 (He.ma K (He.ga K e.1) e.2) (He5.wf K (He.ga K e.1) "staticmethod" e.2) := stmB_ok (List.all_eq_true.mp (ev.ix 1 (f := fun K => stmL.all fun e => stmB K (He.ga K e.1) e.2) rfl) e h)
theorem Ev.nocs (ev : Ev K mg base) {T : String} (hT : T ∈ tyL) : ∀ C ∈ clsL, PySem.W.kitOne K (.ref (He.ga K C)) (.type T) = some false := notB_ok (ev.ix 2 (f := fun K => notB K clsL) rfl) hT
theorem Ev.tup (ev : Ev K mg base) {e : Str × List Int} (h : e ∈ tupL) : He.tupB K e.1 (dvI e.2) = true := List.all_eq_true.mp (ev.ix 4 (f := fun K => tupL.all fun e => He.tupB K e.1 (dvI e.2)) rfl) e h
theorem Ev.tab (ev : Ev K mg base) : isTabB K ancO ancT leafs owns = true := ev.ix 5 (f := fun K => isTabB K ancO ancT leafs owns) rfl
theorem Ev.exx (ev : Ev K mg base) {e : Str × Bs × List Str} (h : e ∈ exL) : exB K (He.ga K e.1) e.2.1 e.2.2 = true := List.all_eq_true.mp (ev.ix 6 (f := fun K => exL.all fun e => exB K (He.ga K e.1) e.2.1 e.2.2) rfl) e h
theorem Ev.sub (ev : Ev K mg base) : subB K owns = true := ev.ix 7 (f := fun K => subB K owns) rfl
theorem Ev.inj (ev : Ev K mg base) : tabInj K = true := ev.ix 8 (f := tabInj) rfl
theorem Ev.meth (ev : Ev K mg base) {e : Str × Str} (h : e ∈ metL) : Meth K (He.ga K e.1) e.2 (He.ma K (He.ga K e.1) e.2) := methB_ok (List.all_eq_true.mp (ev.ix 9 (f := fun K => metL.all fun e => methB K (He.ga K e.1) e.2) rfl) e h)
theorem Ev.first (ev : Ev K mg base) (C : Str) (h : C ∈ clsL := by decide +kernel) : PySem.W.selfFirst K (He.ga K C) = true := ownB_first (ev.ix 10 (f := fun K => ownB K clsL) rfl) h
theorem Ev.nf (ev : Ev K mg base) (C : Str) (h : C ∈ clsL := by decide +kernel) : nfB K (He.ga K C) clsL = true := ownB_nf (ev.ix 10 (f := fun K => ownB K clsL) rfl) h
theorem Ev.clsb (ev : Ev K mg base) : clsB K clsL = true := ev.ix 11 (f := fun K => clsB K clsL) rfl
theorem Ev.tab_ (ev : Ev K mg base) (x : Str) (h : x ∈ tabN := by decide +kernel) : LamX.TabB base mg (He.cT K (x, none)).1 (He.cT K (x, none)).2 := ev.t x h
theorem ev_of {h h' : Heap} (X : K.In h) (G : h.Ns mainGlobals mg) (c : SaysS fa fn xs tf h' K) (t : ∀ x ∈ tabN, LamX.TabB base mg (He.cT K (x, none)).1 (He.cT K (x, none)).2) : Ev K mg base := by
  have a := (He.ba (show ((fa.all fun f => f.ok K) && fn.all fun d => d.ok K) = true from congrArg (fun z : He.AlD => z.1) c.d)).1
  have hx : ∀ f ∈ xs, f K = true := fun f hf => List.all_eq_true.mp (congrArg (fun z : AlS => z.2) c.o) f hf
  refine ⟨c.d, hx, fun x hx => He.glo_ok X G (List.all_eq_true.mp a _ ?_), fun x hx => He.free_ok X G (List.all_eq_true.mp a _ ?_), fun e he => gblB_ok X G (List.all_eq_true.mp (c.x 3 (f := fun K => gblL.all fun e => gblB K e.1 e.2) rfl) e he), t⟩
  · exact List.mem_append_left _ (List.mem_map_of_mem hx)
  · exact List.mem_append_right _ (List.mem_map_of_mem hx)
end
end K10

set_option Elab.async false
set_option linter.all false
set_option maxRecDepth 100000
set_option maxHeartbeats 4000000

namespace K10
open PySem PySem.Spec PyProof.Rows L2 Sim
variable {P : Program} {w : World} {K : Frag} {mg : Str → Option Value} {base : Heap}
def slotN (i : Nat) (σ : Sl) : Nat := match σ[i]? with
  | some (some (.int z)) => z.natAbs + 2
  | _ => 0
def w__law_low_401 : Sl → Nat := slotN 3
abbrev si_InvalidFraction : Stmt := inCls (top 5) 0
abbrev tp_InvalidFraction : List (Str × Fl) := [("code", .s "InvalidFraction"), ("at", .a 0)]
abbrev md_InvalidFraction : List (Nat × List Str × Bool) := [(1, [], false)]
theorem sci_InvalidFraction : FnScope ["self", "at"] ["self", "at"] (defScope si_InvalidFraction) := ⟨rfl, rfl, rfl, by decide +kernel, rfl, by decide +kernel, by decide +kernel⟩
theorem mk_InvalidFraction (ev : Ev K mg base) : MkX P w K mg base "InvalidFraction" 1 tp_InvalidFraction md_InvalidFraction := by
  have f : ExF K "InvalidFraction" ["code", "at"] := exB_ok (b := .ve) (ev.exx (by decide +kernel : (("InvalidFraction" : Str), Bs.ve, (["code", "at"] : List Str)) ∈ exL))
  obtain ⟨fd, F⟩ := ev.says.def_ DI_InvalidFraction rfl
  refine ⟨f.T, ⟨_, fd, ["self", "at"], f.iC, f.tI, ok_init2 f.T rfl rfl (f.no _ (by simp)) (f.no _ (by simp)) F sci_InvalidFraction, ?_⟩, ev.glo "InvalidFraction", fun fs h => f.cls fs (by rw [h]; decide +kernel), f.ty⟩
  intro md h
  simp only [md_InvalidFraction, List.mem_cons, List.not_mem_nil, or_false] at h
  subst h
  exact kbn F 2 [] false (fun _ _ _ _ _ _ us ws h1 h2 => match us, ws, h1, h2 with | [_, _], [], _, _ => rfl)

abbrev si_InvalidOrder : Stmt := inCls (top 6) 0
abbrev tp_InvalidOrder : List (Str × Fl) := [("code", .s "InvalidOrder"), ("value", .a 0)]
abbrev md_InvalidOrder : List (Nat × List Str × Bool) := [(1, [], false)]
theorem sci_InvalidOrder : FnScope ["self", "value"] ["self", "value"] (defScope si_InvalidOrder) := ⟨rfl, rfl, rfl, by decide +kernel, rfl, by decide +kernel, by decide +kernel⟩
theorem mk_InvalidOrder (ev : Ev K mg base) : MkX P w K mg base "InvalidOrder" 1 tp_InvalidOrder md_InvalidOrder := by
  have f : ExF K "InvalidOrder" ["code", "value"] := exB_ok (b := .ve) (ev.exx (by decide +kernel : (("InvalidOrder" : Str), Bs.ve, (["code", "value"] : List Str)) ∈ exL))
  obtain ⟨fd, F⟩ := ev.says.def_ DI_InvalidOrder rfl
  refine ⟨f.T, ⟨_, fd, ["self", "value"], f.iC, f.tI, ok_init2 f.T rfl rfl (f.no _ (by simp)) (f.no _ (by simp)) F sci_InvalidOrder, ?_⟩, ev.glo "InvalidOrder", fun fs h => f.cls fs (by rw [h]; decide +kernel), f.ty⟩
  intro md h
  simp only [md_InvalidOrder, List.mem_cons, List.not_mem_nil, or_false] at h
  subst h
  exact kbn F 2 [] false (fun _ _ _ _ _ _ us ws h1 h2 => match us, ws, h1, h2 with | [_, _], [], _, _ => rfl)

abbrev si_InvalidTable : Stmt := inCls (top 11) 0
abbrev tp_InvalidTable : List (Str × Fl) := [("code", .s "InvalidTable"), ("at", .a 0)]
abbrev md_InvalidTable : List (Nat × List Str × Bool) := [(1, [], false)]
theorem sci_InvalidTable : FnScope ["self", "at"] ["self", "at"] (defScope si_InvalidTable) := ⟨rfl, rfl, rfl, by decide +kernel, rfl, by decide +kernel, by decide +kernel⟩
theorem mk_InvalidTable (ev : Ev K mg base) : MkX P w K mg base "InvalidTable" 1 tp_InvalidTable md_InvalidTable := by
  have f : ExF K "InvalidTable" ["code", "at"] := exB_ok (b := .ve) (ev.exx (by decide +kernel : (("InvalidTable" : Str), Bs.ve, (["code", "at"] : List Str)) ∈ exL))
  obtain ⟨fd, F⟩ := ev.says.def_ DI_InvalidTable rfl
  refine ⟨f.T, ⟨_, fd, ["self", "at"], f.iC, f.tI, ok_init2 f.T rfl rfl (f.no _ (by simp)) (f.no _ (by simp)) F sci_InvalidTable, ?_⟩, ev.glo "InvalidTable", fun fs h => f.cls fs (by rw [h]; decide +kernel), f.ty⟩
  intro md h
  simp only [md_InvalidTable, List.mem_cons, List.not_mem_nil, or_false] at h
  subst h
  exact kbn F 2 [] false (fun _ _ _ _ _ _ us ws h1 h2 => match us, ws, h1, h2 with | [_, _], [], _, _ => rfl)

abbrev si_InvalidPlace : Stmt := inCls (top 9) 0
abbrev tp_InvalidPlace : List (Str × Fl) := [("code", .s "InvalidPlace"), ("value", .a 0)]
abbrev md_InvalidPlace : List (Nat × List Str × Bool) := [(1, [], false)]
theorem sci_InvalidPlace : FnScope ["self", "value"] ["self", "value"] (defScope si_InvalidPlace) := ⟨rfl, rfl, rfl, by decide +kernel, rfl, by decide +kernel, by decide +kernel⟩
theorem mk_InvalidPlace (ev : Ev K mg base) : MkX P w K mg base "InvalidPlace" 1 tp_InvalidPlace md_InvalidPlace := by
  have f : ExF K "InvalidPlace" ["code", "value"] := exB_ok (b := .ve) (ev.exx (by decide +kernel : (("InvalidPlace" : Str), Bs.ve, (["code", "value"] : List Str)) ∈ exL))
  obtain ⟨fd, F⟩ := ev.says.def_ DI_InvalidPlace rfl
  refine ⟨f.T, ⟨_, fd, ["self", "value"], f.iC, f.tI, ok_init2 f.T rfl rfl (f.no _ (by simp)) (f.no _ (by simp)) F sci_InvalidPlace, ?_⟩, ev.glo "InvalidPlace", fun fs h => f.cls fs (by rw [h]; decide +kernel), f.ty⟩
  intro md h
  simp only [md_InvalidPlace, List.mem_cons, List.not_mem_nil, or_false] at h
  subst h
  exact kbn F 2 [] false (fun _ _ _ _ _ _ us ws h1 h2 => match us, ws, h1, h2 with | [_, _], [], _, _ => rfl)

abbrev si_NotATable : Stmt := inCls (top 14) 0
abbrev tp_NotATable : List (Str × Fl) := [("code", .s "NotATable"), ("place", .a 1), ("line", .a 0)]
abbrev md_NotATable : List (Nat × List Str × Bool) := [(2, [], false)]
theorem sci_NotATable : FnScope ["self", "line", "place"] ["self", "line", "place"] (defScope si_NotATable) := ⟨rfl, rfl, rfl, by decide +kernel, rfl, by decide +kernel, by decide +kernel⟩
theorem mk_NotATable (ev : Ev K mg base) : MkX P w K mg base "NotATable" 2 tp_NotATable md_NotATable := by
  have f : ExF K "NotATable" ["code", "place", "line"] := exB_ok (b := .ve) (ev.exx (by decide +kernel : (("NotATable" : Str), Bs.ve, (["code", "place", "line"] : List Str)) ∈ exL))
  obtain ⟨fd, F⟩ := ev.says.def_ DI_NotATable rfl
  refine ⟨f.T, ⟨_, fd, ["self", "line", "place"], f.iC, f.tI, ok_init3 f.T rfl rfl rfl rfl (f.no _ (by simp)) (f.no _ (by simp)) (f.no _ (by simp)) F sci_NotATable, ?_⟩, ev.glo "NotATable", fun fs h => f.cls fs (by rw [h]; decide +kernel), f.ty⟩
  intro md h
  simp only [md_NotATable, List.mem_cons, List.not_mem_nil, or_false] at h
  subst h
  exact kbn F 3 [] false (fun _ _ _ _ _ _ us ws h1 h2 => match us, ws, h1, h2 with | [_, _, _], [], _, _ => rfl)

abbrev N_is_fraction : List Str := ["value", "part"]
abbrev st_is_fraction : Stmt := top 17
theorem sc_is_fraction : FnScope N_is_fraction ["value"] (defScope st_is_fraction) := ⟨rfl, rfl, rfl, by decide +kernel, rfl, by decide +kernel, by decide +kernel⟩
def m_is_fraction : Sm := (sSeq (sIf (tOr (tNot (tOf (eUn (isiD (isB "tuple" clsL)) (eVar 0)))) (tOf (eBin neD (eCB lenD (aCons (eVar 0) aNil)) (eC (.int 2))))) (sRet (eC (.bl false))) sNil) (sSeq (sFor (iVal (eVar 0)) (gN 1) (sIf (tOr (tNot (tOf (eUn (isiD (isB "int" clsL)) (eVar 1)))) (tOf (eUn (isiD (isB "bool" clsL)) (eVar 1)))) (sRet (eC (.bl false))) sNil)) (sRet (eAnd (eBin geI (eBin ixD (eVar 0) (eC (.int 1))) (eC (.int 1))) (eBin eqD (eCB gcdD (aCons (eBin ixD (eVar 0) (eC (.int 0))) (aCons (eBin ixD (eVar 0) (eC (.int 1))) aNil))) (eC (.int 1)))))))
def f_is_fraction : List D → Sto → Res D := chk 1 (runDef 2 m_is_fraction)
theorem fk_is_fraction (ev : Ev K mg base) {fd : FuncData} (F : FunD K "is_fraction" "is_fraction" (defArgs st_is_fraction) (defBody st_is_fraction) (defScope st_is_fraction) [] [] (He.ga K "is_fraction") fd) : FnOk P w K mg base (CXp P w) 1 (He.ga K "is_fraction") fd ["value"] (spM K 1 f_is_fraction) := by
  have h : spM K 1 f_is_fraction = spM K 1 (runDef 2 m_is_fraction) := runDef_chk
  rw [h]
  exact fn_sim (N := N_is_fraction) F sc_is_fraction fun cdv A outer s H E hr => (sss_cons (ss_if (st_sw (sw_or (st_not (st_val (se_isi (ev.free "isinstance") (se_var (pv 0)) (cls_ty (ev.free "tuple")) (isB_ok (by decide) (ev.nocs (by decide)))))) (sw_or1 (st_ne hr (se_cb call_len gc_len (ev.free "len") (sa_cons (se_var (pv 0)) sa_nil)) se_int)))) (sss_one (ss_ret se_bl)) sss_nil) (sss_cons (ss_for cx_own rfl (si_val (se_var (pv 0))) (sg_name (i := 1) sc_is_fraction.nd rfl (by first | exact Or.inl rfl | exact Or.inr rfl)) (sss_one (ss_if (st_sw (sw_or (st_not (st_val (se_isi (ev.free "isinstance") (se_var (pv 1)) (cls_ty (ev.free "int")) (isB_ok (by decide) (ev.nocs (by decide)))))) (sw_or1 (st_val (se_isi (ev.free "isinstance") (se_var (pv 1)) (cls_ty (ev.free "bool")) (isB_ok (by decide) (ev.nocs (by decide)))))))) (sss_one (ss_ret se_bl)) sss_nil))) (sss_one (ss_ret (se_and (se_ge (se_ix (se_var (pv 0)) se_int) se_int) (se_one (se_eq hr (se_cbG cr_gcd gc_gcd (ev.gbl "gcd") (sa_cons (se_ix (se_var (pv 0)) se_int) (sa_cons (se_ix (se_var (pv 0)) se_int) sa_nil))) se_int)))))))
theorem ok_is_fraction (ev : Ev K mg base) : Fn P w K mg base "is_fraction" 1 1 f_is_fraction := by
  obtain ⟨fd, F⟩ := ev.says.def_ D_is_fraction rfl
  exact ⟨⟨fd, ["value"], fk_is_fraction ev F, (F.bindsN fun _ _ _ _ _ _ us hl => match us, hl with | [_], _ => rfl)⟩, ev.glo "is_fraction", F.kp, chk_len⟩
abbrev N_ratio : List Str := ["upper", "lower", "common"]
abbrev st_ratio : Stmt := top 18
theorem sc_ratio : FnScope N_ratio ["upper", "lower"] (defScope st_ratio) := ⟨rfl, rfl, rfl, by decide +kernel, rfl, by decide +kernel, by decide +kernel⟩
def m_ratio : Sm := (sSeq (sIf (tOf (eBin eqD (eVar 1) (eC (.int 0)))) mBad sNil) (sSeq (sSet 2 (eCB gcdD (aCons (eVar 0) (aCons (eVar 1) aNil)))) (sSeq (sIf (tOf (eBin ltI (eVar 1) (eC (.int 0)))) (sRet (eTup (aCons (eBin fdivI (eUn negI (eVar 0)) (eVar 2)) (aCons (eBin fdivI (eUn negI (eVar 1)) (eVar 2)) aNil)))) sNil) (sRet (eTup (aCons (eBin fdivI (eVar 0) (eVar 2)) (aCons (eBin fdivI (eVar 1) (eVar 2)) aNil)))))))
def f_ratio : List D → Sto → Res D := chk 2 (runDef 3 m_ratio)
theorem fk_ratio (ev : Ev K mg base) {fd : FuncData} (F : FunD K "ratio" "ratio" (defArgs st_ratio) (defBody st_ratio) (defScope st_ratio) [] [] (He.ga K "ratio") fd) : FnOk P w K mg base (CXp P w) 1 (He.ga K "ratio") fd ["upper", "lower"] (spM K 2 f_ratio) := by
  have h : spM K 2 f_ratio = spM K 2 (runDef 3 m_ratio) := runDef_chk
  rw [h]
  exact fn_sim (N := N_ratio) F sc_ratio fun cdv A outer s H E hr => (sss_cons (ss_if (st_eq hr (se_var (pv 1)) se_int) (sss_one ss_bad) sss_nil) (sss_cons (ss_set sc_ratio.nd (i := 2) rfl (by first | exact Or.inl rfl | exact Or.inr rfl) (se_cbG cr_gcd gc_gcd (ev.gbl "gcd") (sa_cons (se_var (pv 0)) (sa_cons (se_var (pv 1)) sa_nil)))) (sss_cons (ss_if (st_lt (se_var (pv 1)) se_int) (sss_one (ss_ret (se_tup (sa_cons (se_fdiv (se_neg (se_var (pv 0))) (se_var (pv 2))) (sa_cons (se_fdiv (se_neg (se_var (pv 1))) (se_var (pv 2))) sa_nil))))) sss_nil) (sss_one (ss_ret (se_tup (sa_cons (se_fdiv (se_var (pv 0)) (se_var (pv 2))) (sa_cons (se_fdiv (se_var (pv 1)) (se_var (pv 2))) sa_nil))))))))
theorem ok_ratio (ev : Ev K mg base) : Fn P w K mg base "ratio" 1 2 f_ratio := by
  obtain ⟨fd, F⟩ := ev.says.def_ D_ratio rfl
  exact ⟨⟨fd, ["upper", "lower"], fk_ratio ev F, (F.bindsN fun _ _ _ _ _ _ us hl => match us, hl with | [_, _], _ => rfl)⟩, ev.glo "ratio", F.kp, chk_len⟩
abbrev N_is_whole : List Str := ["value"]
abbrev st_is_whole : Stmt := top 27
theorem sc_is_whole : FnScope N_is_whole ["value"] (defScope st_is_whole) := ⟨rfl, rfl, rfl, by decide +kernel, rfl, by decide +kernel, by decide +kernel⟩
def m_is_whole : Sm := (sRet (eAnd (eUn (isiD (isB "int" clsL)) (eVar 0)) (eNot (eUn (isiD (isB "bool" clsL)) (eVar 0)))))
def f_is_whole : List D → Sto → Res D := chk 1 (runDef 1 m_is_whole)
theorem fk_is_whole (ev : Ev K mg base) {fd : FuncData} (F : FunD K "is_whole" "is_whole" (defArgs st_is_whole) (defBody st_is_whole) (defScope st_is_whole) [] [] (He.ga K "is_whole") fd) : FnOk P w K mg base (CXp P w) 1 (He.ga K "is_whole") fd ["value"] (spM K 1 f_is_whole) := by
  have h : spM K 1 f_is_whole = spM K 1 (runDef 1 m_is_whole) := runDef_chk
  rw [h]
  exact fn_sim (N := N_is_whole) F sc_is_whole fun cdv A outer s H E hr => (sss_one (ss_ret (se_and (se_isi (ev.free "isinstance") (se_var (pv 0)) (cls_ty (ev.free "int")) (isB_ok (by decide) (ev.nocs (by decide)))) (se_one (se_not (se_isi (ev.free "isinstance") (se_var (pv 0)) (cls_ty (ev.free "bool")) (isB_ok (by decide) (ev.nocs (by decide)))))))))
theorem ok_is_whole (ev : Ev K mg base) : Fn P w K mg base "is_whole" 1 1 f_is_whole := by
  obtain ⟨fd, F⟩ := ev.says.def_ D_is_whole rfl
  exact ⟨⟨fd, ["value"], fk_is_whole ev F, (F.bindsN fun _ _ _ _ _ _ us hl => match us, hl with | [_], _ => rfl)⟩, ev.glo "is_whole", F.kp, chk_len⟩
abbrev N_is_order : List Str := ["value"]
abbrev st_is_order : Stmt := top 28
theorem sc_is_order : FnScope N_is_order ["value"] (defScope st_is_order) := ⟨rfl, rfl, rfl, by decide +kernel, rfl, by decide +kernel, by decide +kernel⟩
def m_is_order : Sm := (sRet (eAnd (eCall f_is_whole (aCons (eVar 0) aNil) []) (eChain leI leI (eC (.int 2)) (eVar 0) (eC (.int 24)))))
def f_is_order : List D → Sto → Res D := chk 1 (runDef 1 m_is_order)
theorem fk_is_order (ev : Ev K mg base) {fd : FuncData} (F : FunD K "is_order" "is_order" (defArgs st_is_order) (defBody st_is_order) (defScope st_is_order) [] [] (He.ga K "is_order") fd) : FnOk P w K mg base (CXp P w) 2 (He.ga K "is_order") fd ["value"] (spM K 1 f_is_order) := by
  have h : spM K 1 f_is_order = spM K 1 (runDef 1 m_is_order) := runDef_chk
  rw [h]
  exact fn_sim (N := N_is_order) F sc_is_order fun cdv A outer s H E hr => (sss_one (ss_ret (se_and (se_fn (ok_is_whole ev) hr (by omega) cx_takes (sa_cons (se_var (pv 0)) sa_nil)) (se_one (se_chain op_le op_le gop_le gop_le se_int (se_var (pv 0)) se_int)))))
theorem ok_is_order (ev : Ev K mg base) : Fn P w K mg base "is_order" 2 1 f_is_order := by
  obtain ⟨fd, F⟩ := ev.says.def_ D_is_order rfl
  exact ⟨⟨fd, ["value"], fk_is_order ev F, (F.bindsN fun _ _ _ _ _ _ us hl => match us, hl with | [_], _ => rfl)⟩, ev.glo "is_order", F.kp, chk_len⟩
abbrev N_first_no_fraction : List Str := ["values", "at", "value"]
abbrev st_first_no_fraction : Stmt := top 29
theorem sc_first_no_fraction : FnScope N_first_no_fraction ["values"] (defScope st_first_no_fraction) := ⟨rfl, rfl, rfl, by decide +kernel, rfl, by decide +kernel, by decide +kernel⟩
def m_first_no_fraction : Sm := (sSeq (sFor (iEnum2M (aCons (eVar 0) aNil)) (gT 2 (gsCons (gN 1) (gsCons (gN 2) gsNil))) (sIf (tNot (tOf (eCall f_is_fraction (aCons (eVar 2) aNil) []))) (sRet (eVar 1)) sNil)) (sRet (eC .non)))
def f_first_no_fraction : List D → Sto → Res D := chk 1 (runDef 3 m_first_no_fraction)
theorem fk_first_no_fraction (ev : Ev K mg base) {fd : FuncData} (F : FunD K "first_no_fraction" "first_no_fraction" (defArgs st_first_no_fraction) (defBody st_first_no_fraction) (defScope st_first_no_fraction) [] [] (He.ga K "first_no_fraction") fd) : FnOk P w K mg base (CXp P w) 2 (He.ga K "first_no_fraction") fd ["values"] (spM K 1 f_first_no_fraction) := by
  have h : spM K 1 f_first_no_fraction = spM K 1 (runDef 3 m_first_no_fraction) := runDef_chk
  rw [h]
  exact fn_sim (N := N_first_no_fraction) F sc_first_no_fraction fun cdv A outer s H E hr => (sss_cons (ss_for cx_own rfl (si_enum2 (ev.free "enumerate") (sa_cons (se_var (pv 0)) sa_nil)) (sg_tup rfl (sgs_cons (sg_name (i := 1) sc_first_no_fraction.nd rfl (by first | exact Or.inl rfl | exact Or.inr rfl)) (sgs_cons (sg_name (i := 2) sc_first_no_fraction.nd rfl (by first | exact Or.inl rfl | exact Or.inr rfl)) sgs_nil))) (sss_one (ss_if (st_not (st_val (se_fn (ok_is_fraction ev) hr (by omega) cx_takes (sa_cons (se_var (pv 2)) sa_nil)))) (sss_one (ss_ret (se_var (pv 1)))) sss_nil))) (sss_one (ss_ret se_non)))
theorem ok_first_no_fraction (ev : Ev K mg base) : Fn P w K mg base "first_no_fraction" 2 1 f_first_no_fraction := by
  obtain ⟨fd, F⟩ := ev.says.def_ D_first_no_fraction rfl
  exact ⟨⟨fd, ["values"], fk_first_no_fraction ev F, (F.bindsN fun _ _ _ _ _ _ us hl => match us, hl with | [_], _ => rfl)⟩, ev.glo "first_no_fraction", F.kp, chk_len⟩
abbrev N_check_numbers : List Str := ["numbers", "ahead", "at"]
abbrev st_check_numbers : Stmt := top 30
theorem sc_check_numbers : FnScope N_check_numbers ["numbers", "ahead"] (defScope st_check_numbers) := ⟨rfl, rfl, rfl, by decide +kernel, rfl, by decide +kernel, by decide +kernel⟩
def m_check_numbers : Sm := (sSeq (sIf (tNot (tOf (eUn (isiD (isB2 "list" "tuple" clsL)) (eVar 0)))) (sRaise "InvalidFraction" tp_InvalidFraction 1 (aCons (eUn negI (eC (.int 1))) aNil)) sNil) (sSeq (sIf (tNot (tOf (eCall f_is_order (aCons (eBin addD (eCB lenD (aCons (eVar 0) aNil)) (eVar 1)) aNil) []))) (sRaise "InvalidOrder" tp_InvalidOrder 1 (aCons (eBin addD (eCB lenD (aCons (eVar 0) aNil)) (eVar 1)) aNil)) sNil) (sSeq (sSet 2 (eCall (brw f_first_no_fraction) (aCons (eVar 0) aNil) [])) (sIf (tOf (eBin notN (eVar 2) (eC .non))) (sRaise "InvalidFraction" tp_InvalidFraction 1 (aCons (eVar 2) aNil)) sNil))))
def f_check_numbers : List D → Sto → Res D := chk 2 (runDef 3 m_check_numbers)
theorem fk_check_numbers (ev : Ev K mg base) {fd : FuncData} (F : FunD K "check_numbers" "check_numbers" (defArgs st_check_numbers) (defBody st_check_numbers) (defScope st_check_numbers) [] [] (He.ga K "check_numbers") fd) : FnOk P w K mg base (CXp P w) 3 (He.ga K "check_numbers") fd ["numbers", "ahead"] (spM K 2 f_check_numbers) := by
  have h : spM K 2 f_check_numbers = spM K 2 (runDef 3 m_check_numbers) := runDef_chk
  rw [h]
  exact fn_sim (N := N_check_numbers) F sc_check_numbers fun cdv A outer s H E hr => (sss_cons (ss_if (st_not (st_val (se_isi2 (ev.free "isinstance") (se_var (pv 0)) (cls_ty (ev.free "list")) (cls_ty (ev.free "tuple")) (isB2_ok (by decide) (by decide) (ev.nocs (by decide)) (ev.nocs (by decide)))))) (sss_one (ss_raise (k := 0) rfl (mk_InvalidFraction ev) (hr.mono (by omega)) cx_takes (sa_cons (se_neg se_int) sa_nil) (by simp [md_InvalidFraction]))) sss_nil) (sss_cons (ss_if (st_not (st_val (se_fn (ok_is_order ev) hr (by omega) cx_takes (sa_cons (se_add (se_cb call_len gc_len (ev.free "len") (sa_cons (se_var (pv 0)) sa_nil)) (se_var (pv 1))) sa_nil)))) (sss_one (ss_raise (k := 0) rfl (mk_InvalidOrder ev) (hr.mono (by omega)) cx_takes (sa_cons (se_add (se_cb call_len gc_len (ev.free "len") (sa_cons (se_var (pv 0)) sa_nil)) (se_var (pv 1))) sa_nil) (by simp [md_InvalidOrder]))) sss_nil) (sss_cons (ss_set sc_check_numbers.nd (i := 2) rfl (by first | exact Or.inl rfl | exact Or.inr rfl) (se_fn (Fn.brw (ok_first_no_fraction ev)) hr (by omega) cx_takes (sa_cons (se_var (pv 0)) sa_nil))) (sss_one (ss_if (st_notN (se_var (pv 2)) se_non) (sss_one (ss_raise (k := 0) rfl (mk_InvalidFraction ev) (hr.mono (by omega)) cx_takes (sa_cons (se_var (pv 2)) sa_nil) (by simp [md_InvalidFraction]))) sss_nil)))))
theorem ok_check_numbers (ev : Ev K mg base) : Fn P w K mg base "check_numbers" 3 2 f_check_numbers := by
  obtain ⟨fd, F⟩ := ev.says.def_ D_check_numbers rfl
  exact ⟨⟨fd, ["numbers", "ahead"], fk_check_numbers ev F, (F.bindsN fun _ _ _ _ _ _ us hl => match us, hl with | [_, _], _ => rfl)⟩, ev.glo "check_numbers", F.kp, chk_len⟩
abbrev N_least_place : List Str := ["numbers", "place", "value"]
abbrev st_least_place : Stmt := top 33
theorem sc_least_place : FnScope N_least_place ["numbers"] (defScope st_least_place) := ⟨rfl, rfl, rfl, by decide +kernel, rfl, by decide +kernel, by decide +kernel⟩
def m_least_place : Sm := (sSeq (sFor (iEnum2M (aCons (eVar 0) aNil)) (gT 2 (gsCons (gN 1) (gsCons (gN 2) gsNil))) (sIf (tOf (eBin neD (eBin ixD (eVar 2) (eC (.int 0))) (eC (.int 0)))) (sRet (eVar 1)) sNil)) (sRet (eC .non)))
def f_least_place : List D → Sto → Res D := chk 1 (runDef 3 m_least_place)
theorem fk_least_place (ev : Ev K mg base) {fd : FuncData} (F : FunD K "least_place" "least_place" (defArgs st_least_place) (defBody st_least_place) (defScope st_least_place) [] [] (He.ga K "least_place") fd) : FnOk P w K mg base (CXp P w) 1 (He.ga K "least_place") fd ["numbers"] (spM K 1 f_least_place) := by
  have h : spM K 1 f_least_place = spM K 1 (runDef 3 m_least_place) := runDef_chk
  rw [h]
  exact fn_sim (N := N_least_place) F sc_least_place fun cdv A outer s H E hr => (sss_cons (ss_for cx_own rfl (si_enum2 (ev.free "enumerate") (sa_cons (se_var (pv 0)) sa_nil)) (sg_tup rfl (sgs_cons (sg_name (i := 1) sc_least_place.nd rfl (by first | exact Or.inl rfl | exact Or.inr rfl)) (sgs_cons (sg_name (i := 2) sc_least_place.nd rfl (by first | exact Or.inl rfl | exact Or.inr rfl)) sgs_nil))) (sss_one (ss_if (st_ne hr (se_ix (se_var (pv 2)) se_int) se_int) (sss_one (ss_ret (se_var (pv 1)))) sss_nil))) (sss_one (ss_ret se_non)))
theorem ok_least_place (ev : Ev K mg base) : Fn P w K mg base "least_place" 1 1 f_least_place := by
  obtain ⟨fd, F⟩ := ev.says.def_ D_least_place rfl
  exact ⟨⟨fd, ["numbers"], fk_least_place ev F, (F.bindsN fun _ _ _ _ _ _ us hl => match us, hl with | [_], _ => rfl)⟩, ev.glo "least_place", F.kp, chk_len⟩
abbrev N_add_product : List Str := ["total", "one", "other", "lower"]
abbrev st_add_product : Stmt := top 35
theorem sc_add_product : FnScope N_add_product ["total", "one", "other"] (defScope st_add_product) := ⟨rfl, rfl, rfl, by decide +kernel, rfl, by decide +kernel, by decide +kernel⟩
def m_add_product : Sm := (sSeq (sIf (tOr (tOf (eBin eqD (eBin ixD (eVar 1) (eC (.int 0))) (eC (.int 0)))) (tOf (eBin eqD (eBin ixD (eVar 2) (eC (.int 0))) (eC (.int 0))))) (sRet (eVar 0)) sNil) (sSeq (sSet 3 (eBin mulI (eBin ixD (eVar 1) (eC (.int 1))) (eBin ixD (eVar 2) (eC (.int 1))))) (sRet (eCall f_ratio (aCons (eBin addD (eBin mulI (eBin ixD (eVar 0) (eC (.int 0))) (eVar 3)) (eBin mulI (eBin mulI (eBin ixD (eVar 1) (eC (.int 0))) (eBin ixD (eVar 2) (eC (.int 0)))) (eBin ixD (eVar 0) (eC (.int 1))))) (aCons (eBin mulI (eBin ixD (eVar 0) (eC (.int 1))) (eVar 3)) aNil)) []))))
def f_add_product : List D → Sto → Res D := chk 3 (runDef 4 m_add_product)
theorem fk_add_product (ev : Ev K mg base) {fd : FuncData} (F : FunD K "add_product" "add_product" (defArgs st_add_product) (defBody st_add_product) (defScope st_add_product) [] [] (He.ga K "add_product") fd) : FnOk P w K mg base (CXp P w) 2 (He.ga K "add_product") fd ["total", "one", "other"] (spM K 3 f_add_product) := by
  have h : spM K 3 f_add_product = spM K 3 (runDef 4 m_add_product) := runDef_chk
  rw [h]
  exact fn_sim (N := N_add_product) F sc_add_product fun cdv A outer s H E hr => (sss_cons (ss_if (st_sw (sw_or (st_eq hr (se_ix (se_var (pv 1)) se_int) se_int) (sw_or1 (st_eq hr (se_ix (se_var (pv 2)) se_int) se_int)))) (sss_one (ss_ret (se_var (pv 0)))) sss_nil) (sss_cons (ss_set sc_add_product.nd (i := 3) rfl (by first | exact Or.inl rfl | exact Or.inr rfl) (se_mul (se_ix (se_var (pv 1)) se_int) (se_ix (se_var (pv 2)) se_int))) (sss_one (ss_ret (se_fn (ok_ratio ev) hr (by omega) cx_takes (sa_cons (se_add (se_mul (se_ix (se_var (pv 0)) se_int) (se_var (pv 3))) (se_mul (se_mul (se_ix (se_var (pv 1)) se_int) (se_ix (se_var (pv 2)) se_int)) (se_ix (se_var (pv 0)) se_int))) (sa_cons (se_mul (se_ix (se_var (pv 0)) se_int) (se_var (pv 3))) sa_nil)))))))
theorem ok_add_product (ev : Ev K mg base) : Fn P w K mg base "add_product" 2 3 f_add_product := by
  obtain ⟨fd, F⟩ := ev.says.def_ D_add_product rfl
  exact ⟨⟨fd, ["total", "one", "other"], fk_add_product ev F, (F.bindsN fun _ _ _ _ _ _ us hl => match us, hl with | [_, _, _], _ => rfl)⟩, ev.glo "add_product", F.kp, chk_len⟩
abbrev N_multiplied : List Str := ["one", "other", "size", "result", "at", "factor", "_", "place"]
abbrev st_multiplied : Stmt := top 39
theorem sc_multiplied : FnScope N_multiplied ["one", "other"] (defScope st_multiplied) := ⟨rfl, rfl, rfl, by decide +kernel, rfl, by decide +kernel, by decide +kernel⟩
def m_multiplied : Sm := (sSeq (sSet 2 (eCB lenD (aCons (eVar 0) aNil))) (sSeq (sSet 3 (eComp true [6] (iRange1 (aCons (eVar 2) aNil)) (gN 6) tTrue (eC (.tup [.int 0, .int 1])))) (sSeq (sFor (iEnum2M (aCons (eVar 0) aNil)) (gT 2 (gsCons (gN 4) (gsCons (gN 5) gsNil))) (sIf (tOf (eBin neD (eBin ixD (eVar 5) (eC (.int 0))) (eC (.int 0)))) (sFor (iRange2 (aCons (eVar 4) (aCons (eVar 2) aNil))) (gN 7) (sSetIx (eCall f_add_product (aCons (eBin ixD (eVar 3) (eVar 7)) (aCons (eVar 5) (aCons (eBin ixD (eVar 1) (eBin subI (eVar 7) (eVar 4))) aNil))) []) (eVar 3) (eVar 7))) sNil)) (sRet (eFrz (eVar 3))))))
def f_multiplied : List D → Sto → Res D := chk 2 (runDef 8 m_multiplied)
theorem fk_multiplied (ev : Ev K mg base) {fd : FuncData} (F : FunD K "multiplied" "multiplied" (defArgs st_multiplied) (defBody st_multiplied) (defScope st_multiplied) [] [] (He.ga K "multiplied") fd) : FnOk P w K mg base (CXp P w) 3 (He.ga K "multiplied") fd ["one", "other"] (spM K 2 f_multiplied) := by
  have h : spM K 2 f_multiplied = spM K 2 (runDef 8 m_multiplied) := runDef_chk
  rw [h]
  exact fn_sim (N := N_multiplied) F sc_multiplied fun cdv A outer s H E hr => (sss_cons (ss_set sc_multiplied.nd (i := 2) rfl (by first | exact Or.inl rfl | exact Or.inr rfl) (se_cb call_len gc_len (ev.free "len") (sa_cons (se_var (pv 0)) sa_nil))) (sss_cons (ss_setComp (k := true) (i := 3) (own := [("_", 6)]) rfl sc_multiplied.nd rfl rfl (sw_true rfl rfl rfl (by decide +kernel)) (si_range1 (ev.free "range") (sa_cons (se_var (pv 2)) sa_nil)) (blkOk_by (N := N_multiplied) (sc := defScope st_multiplied) (own := [("_", 6)]) (by decide +kernel)) (fun _ _ _ _ _ => (pg_name (i := 6) sc_multiplied.nd rfl (Or.inl rfl))) (grel_name (i := 6) (by decide)) (fun _ _ _ _ _ => (se_glob (ev.glo "ZERO") (fun w _ => rep_ktup (ns := [0, 1]) (ev.tup (e := ("ZERO", [0, 1])) (by decide +kernel)) w)))) (sss_cons (ss_for cx_own rfl (si_enum2 (ev.free "enumerate") (sa_cons (se_var (pv 0)) sa_nil)) (sg_tup rfl (sgs_cons (sg_name (i := 4) sc_multiplied.nd rfl (by first | exact Or.inl rfl | exact Or.inr rfl)) (sgs_cons (sg_name (i := 5) sc_multiplied.nd rfl (by first | exact Or.inl rfl | exact Or.inr rfl)) sgs_nil))) (sss_one (ss_if (st_ne hr (se_ix (se_var (pv 5)) se_int) se_int) (sss_one (ss_for cx_own rfl (si_range2 (ev.free "range") (sa_cons (se_var (pv 4)) (sa_cons (se_var (pv 2)) sa_nil))) (sg_name (i := 7) sc_multiplied.nd rfl (by first | exact Or.inl rfl | exact Or.inr rfl)) (sss_one (ss_setix (se_fn (ok_add_product ev) hr (by omega) cx_takes (sa_cons (se_ix (se_var (pv 3)) (se_var (pv 7))) (sa_cons (se_var (pv 5)) (sa_cons (se_ix (se_var (pv 1)) (se_sub (se_var (pv 7)) (se_var (pv 4)))) sa_nil)))) (se_var (pv 3)) (se_var (pv 7)))))) sss_nil))) (sss_one (ss_ret (se_frz (se_var (pv 3))))))))
theorem ok_multiplied (ev : Ev K mg base) : Fn P w K mg base "multiplied" 3 2 f_multiplied := by
  obtain ⟨fd, F⟩ := ev.says.def_ D_multiplied rfl
  exact ⟨⟨fd, ["one", "other"], fk_multiplied ev F, (F.bindsN fun _ _ _ _ _ _ us hl => match us, hl with | [_, _], _ => rfl)⟩, ev.glo "multiplied", F.kp, chk_len⟩
abbrev N_powers_of : List Str := ["numbers", "lines", "_"]
abbrev st_powers_of : Stmt := top 41
theorem sc_powers_of : FnScope N_powers_of ["numbers"] (defScope st_powers_of) := ⟨rfl, rfl, rfl, by decide +kernel, rfl, by decide +kernel, by decide +kernel⟩
def m_powers_of : Sm := (sSeq (sSet 1 (eLst true (aCons (eCB (listD false) (aCons (eVar 0) aNil)) aNil))) (sSeq (sFor (iRange1 (aCons (eBin subI (eCB lenD (aCons (eVar 0) aNil)) (eC (.int 2))) aNil)) (gN 2) (sExpr (eBM "list" (mutD fAppend) (eVar 1) (aCons (eCall f_multiplied (aCons (eBin ixD (eVar 1) (eUn negI (eC (.int 1)))) (aCons (eVar 0) aNil)) []) aNil)))) (sRet (eFrz (eVar 1)))))
def f_powers_of : List D → Sto → Res D := chk 1 (runDef 3 m_powers_of)
theorem fk_powers_of (ev : Ev K mg base) {fd : FuncData} (F : FunD K "powers_of" "powers_of" (defArgs st_powers_of) (defBody st_powers_of) (defScope st_powers_of) [] [] (He.ga K "powers_of") fd) : FnOk P w K mg base (CXp P w) 4 (He.ga K "powers_of") fd ["numbers"] (spM K 1 f_powers_of) := by
  have h : spM K 1 f_powers_of = spM K 1 (runDef 3 m_powers_of) := runDef_chk
  rw [h]
  exact fn_sim (N := N_powers_of) F sc_powers_of fun cdv A outer s H E hr => (sss_cons (ss_set sc_powers_of.nd (i := 1) rfl (by first | exact Or.inl rfl | exact Or.inr rfl) (se_lst (k := true) (sa_cons (se_cty call_list_of (gc_list (k := false)) (ev.free "list") (sa_cons (se_var (pv 0)) sa_nil)) sa_nil))) (sss_cons (ss_for cx_own rfl (si_range1 (ev.free "range") (sa_cons (se_sub (se_cb call_len gc_len (ev.free "len") (sa_cons (se_var (pv 0)) sa_nil)) se_int) sa_nil)) (sg_name (i := 2) sc_powers_of.nd rfl (by first | exact Or.inl rfl | exact Or.inr rfl)) (sss_one (ss_expr (se_bm PySem.F.plainAttrs_list PySem.F.slot_list_append PySem.F.type_list_append mt_append gmt_append (se_var (pv 1)) (sa_cons (se_fn (ok_multiplied ev) hr (by omega) cx_takes (sa_cons (se_ix (se_var (pv 1)) (se_neg se_int)) (sa_cons (se_var (pv 0)) sa_nil))) sa_nil))))) (sss_one (ss_ret (se_frz (se_var (pv 1)))))))
theorem ok_powers_of (ev : Ev K mg base) : Fn P w K mg base "powers_of" 4 1 f_powers_of := by
  obtain ⟨fd, F⟩ := ev.says.def_ D_powers_of rfl
  exact ⟨⟨fd, ["numbers"], fk_powers_of ev F, (F.bindsN fun _ _ _ _ _ _ us hl => match us, hl with | [_], _ => rfl)⟩, ev.glo "powers_of", F.kp, chk_len⟩
abbrev N__bend_of : List Str := ["numbers", "place"]
abbrev st__bend_of : Stmt := top 52
theorem sc__bend_of : FnScope N__bend_of ["numbers"] (defScope st__bend_of) := ⟨rfl, rfl, rfl, by decide +kernel, rfl, by decide +kernel, by decide +kernel⟩
def m__bend_of : Sm := (sSeq (sSet 1 (eCall f_least_place (aCons (eSl false (eVar 0) (pSome (eC (.int 2))) pNone) aNil) [])) (sRet (eIf (tOf (eBin isN (eVar 1) (eC .non))) (eC .non) (eBin addD (eVar 1) (eC (.int 2))))))
def f__bend_of : List D → Sto → Res D := chk 1 (runDef 2 m__bend_of)
theorem fk__bend_of (ev : Ev K mg base) {fd : FuncData} (F : FunD K "_bend_of" "_bend_of" (defArgs st__bend_of) (defBody st__bend_of) (defScope st__bend_of) [] [] (He.ga K "_bend_of") fd) : FnOk P w K mg base (CXp P w) 2 (He.ga K "_bend_of") fd ["numbers"] (spM K 1 f__bend_of) := by
  have h : spM K 1 f__bend_of = spM K 1 (runDef 2 m__bend_of) := runDef_chk
  rw [h]
  exact fn_sim (N := N__bend_of) F sc__bend_of fun cdv A outer s H E hr => (sss_cons (ss_set sc__bend_of.nd (i := 1) rfl (by first | exact Or.inl rfl | exact Or.inr rfl) (se_fn (ok_least_place ev) hr (by omega) cx_takes (sa_cons (se_sl (k := false) (se_var (pv 0)) (sp_some se_int) sp_none) sa_nil))) (sss_one (ss_ret (se_if (st_isN (se_var (pv 1)) se_non) se_non (se_add (se_var (pv 1)) se_int)))))
theorem ok__bend_of (ev : Ev K mg base) : Fn P w K mg base "_bend_of" 2 1 f__bend_of := by
  obtain ⟨fd, F⟩ := ev.says.def_ D__bend_of rfl
  exact ⟨⟨fd, ["numbers"], fk__bend_of ev F, (F.bindsN fun _ _ _ _ _ _ us hl => match us, hl with | [_], _ => rfl)⟩, ev.glo "_bend_of", F.kp, chk_len⟩
abbrev N__kind_of : List Str := ["numbers", "lead"]
abbrev st__kind_of : Stmt := top 53
theorem sc__kind_of : FnScope N__kind_of ["numbers"] (defScope st__kind_of) := ⟨rfl, rfl, rfl, by decide +kernel, rfl, by decide +kernel, by decide +kernel⟩
def m__kind_of : Sm := (sSeq (sSet 1 (eBin ixD (eVar 0) (eC (.int 1)))) (sSeq (sIf (tOf (eBin eqD (eVar 1) (eC (.tup [.int 0, .int 1])))) (sRet (eIf (tOf (eBin isN (eCall f_least_place (aCons (eVar 0) aNil) []) (eC .non))) (eC (.str "nothing")) (eC (.str "crush")))) sNil) (sSeq (sIf (tOf (eBin eqD (eVar 1) (eC (.tup [.int 1, .int 1])))) (sRet (eIf (tOf (eBin isN (eCall f__bend_of (aCons (eVar 0) aNil) []) (eC .non))) (eC (.str "still")) (eC (.str "creep")))) sNil) (sRet (eIf (tOf (eBin eqD (eVar 1) (eTup (aCons (eUn negI (eC (.int 1))) (aCons (eC (.int 1)) aNil))))) (eC (.str "flip")) (eC (.str "stretch")))))))
def f__kind_of : List D → Sto → Res D := chk 1 (runDef 2 m__kind_of)
theorem fk__kind_of (ev : Ev K mg base) {fd : FuncData} (F : FunD K "_kind_of" "_kind_of" (defArgs st__kind_of) (defBody st__kind_of) (defScope st__kind_of) [] [] (He.ga K "_kind_of") fd) : FnOk P w K mg base (CXp P w) 3 (He.ga K "_kind_of") fd ["numbers"] (spM K 1 f__kind_of) := by
  have h : spM K 1 f__kind_of = spM K 1 (runDef 2 m__kind_of) := runDef_chk
  rw [h]
  exact fn_sim (N := N__kind_of) F sc__kind_of fun cdv A outer s H E hr => (sss_cons (ss_set sc__kind_of.nd (i := 1) rfl (by first | exact Or.inl rfl | exact Or.inr rfl) (se_ix (se_var (pv 0)) se_int)) (sss_cons (ss_if (st_eq hr (se_var (pv 1)) (se_glob (ev.glo "ZERO") (fun w _ => rep_ktup (ns := [0, 1]) (ev.tup (e := ("ZERO", [0, 1])) (by decide +kernel)) w))) (sss_one (ss_ret (se_if (st_isN (se_fn (ok_least_place ev) hr (by omega) cx_takes (sa_cons (se_var (pv 0)) sa_nil)) se_non) se_str se_str))) sss_nil) (sss_cons (ss_if (st_eq hr (se_var (pv 1)) (se_glob (ev.glo "ONE") (fun w _ => rep_ktup (ns := [1, 1]) (ev.tup (e := ("ONE", [1, 1])) (by decide +kernel)) w))) (sss_one (ss_ret (se_if (st_isN (se_fn (ok__bend_of ev) hr (by omega) cx_takes (sa_cons (se_var (pv 0)) sa_nil)) se_non) se_str se_str))) sss_nil) (sss_one (ss_ret (se_if (st_eq hr (se_var (pv 1)) (se_tup (sa_cons (se_neg se_int) (sa_cons se_int sa_nil)))) se_str se_str))))))
theorem ok__kind_of (ev : Ev K mg base) : Fn P w K mg base "_kind_of" 3 1 f__kind_of := by
  obtain ⟨fd, F⟩ := ev.says.def_ D__kind_of rfl
  exact ⟨⟨fd, ["numbers"], fk__kind_of ev F, (F.bindsN fun _ _ _ _ _ _ us hl => match us, hl with | [_], _ => rfl)⟩, ev.glo "_kind_of", F.kp, chk_len⟩
theorem inf_Step (ev : Ev K mg base) : InF K "Step" ["_numbers", "order", "lead", "height", "kind", "flat", "strength"] := ev.inf (e := ("Step", ["_numbers", "order", "lead", "height", "kind", "flat", "strength"])) (by decide +kernel)
abbrev N_Step___init__ : List Str := ["self", "numbers", "place"]
abbrev st_Step___init__ : Stmt := inCls (top 51) 0
theorem sc_Step___init__ : FnScope N_Step___init__ ["self", "numbers"] (defScope st_Step___init__) := ⟨rfl, rfl, rfl, by decide +kernel, rfl, by decide +kernel, by decide +kernel⟩
def m_Step___init__ : Sm := (sSeq (sExpr (eCall f_check_numbers (aCons (eVar 1) (aCons (eC (.int 0)) aNil)) [])) (sSeq (sFldM ["Step"] "_numbers" (eBin (catL false) (eLst false (aCons (eC (.tup [.int 0, .int 1])) aNil)) (eCB (listD false) (aCons (eVar 1) aNil))) (eVar 0)) (sSeq (sFldM ["Step"] "order" (eCB lenD (aCons (eVar 1) aNil)) (eVar 0)) (sSeq (sFldM ["Step"] "lead" (eBin ixD (eVar 1) (eC (.int 0))) (eVar 0)) (sSeq (sFldM ["Step"] "height" (eCall f_least_place (aCons (eUn (attD "_numbers") (eVar 0)) aNil) []) (eVar 0)) (sSeq (sFldM ["Step"] "kind" (eCall f__kind_of (aCons (eUn (attD "_numbers") (eVar 0)) aNil) []) (eVar 0)) (sSeq (sFldM ["Step"] "flat" (eC .non) (eVar 0)) (sSeq (sFldM ["Step"] "strength" (eC .non) (eVar 0)) (sSeq (sIf (tOf (eBin eqD (eUn (attD "kind") (eVar 0)) (eC (.str "creep")))) (sSeq (sSet 2 (eCall f__bend_of (aCons (eUn (attD "_numbers") (eVar 0)) aNil) [])) (sSeq (sFldM ["Step"] "flat" (eBin subI (eVar 2) (eC (.int 1))) (eVar 0)) (sFldM ["Step"] "strength" (eBin ixD (eVar 1) (eBin subI (eVar 2) (eC (.int 1)))) (eVar 0)))) sNil) (sIf (tOf (eBin eqD (eUn (attD "kind") (eVar 0)) (eC (.str "crush")))) (sFldM ["Step"] "strength" (eBin ixD (eVar 1) (eBin subI (eUn (attD "height") (eVar 0)) (eC (.int 1)))) (eVar 0)) sNil))))))))))
def f_Step___init__ : List D → Sto → Res D := chk 2 (runDef 3 m_Step___init__)
theorem fk_Step___init__ (ev : Ev K mg base) {fd : FuncData} (F : FunD K "__init__" "Step.__init__" (defArgs st_Step___init__) (defBody st_Step___init__) (defScope st_Step___init__) [] [] (He.ma K (He.ga K "Step") "__init__") fd) : FnOk P w K mg base (CXp P w) 4 (He.ma K (He.ga K "Step") "__init__") fd ["self", "numbers"] (spM K 2 f_Step___init__) := by
  have h : spM K 2 f_Step___init__ = spM K 2 (runDef 3 m_Step___init__) := runDef_chk
  rw [h]
  exact fn_sim (N := N_Step___init__) F sc_Step___init__ fun cdv A outer s H E hr => (sss_cons (ss_expr (se_fn (ok_check_numbers ev) hr (by omega) cx_takes (sa_cons (se_var (pv 1)) (sa_cons se_int sa_nil)))) (sss_cons (ss_fld (cs := ["Step"]) (one_no (inf_Step ev) (by decide)) (se_cat (k := false) (se_lst (k := false) (sa_cons (se_glob (ev.glo "ZERO") (fun w _ => rep_ktup (ns := [0, 1]) (ev.tup (e := ("ZERO", [0, 1])) (by decide +kernel)) w)) sa_nil)) (se_cty call_list_of (gc_list (k := false)) (ev.free "list") (sa_cons (se_var (pv 1)) sa_nil))) (se_var (pv 0))) (sss_cons (ss_fld (cs := ["Step"]) (one_no (inf_Step ev) (by decide)) (se_cb call_len gc_len (ev.free "len") (sa_cons (se_var (pv 1)) sa_nil)) (se_var (pv 0))) (sss_cons (ss_fld (cs := ["Step"]) (one_no (inf_Step ev) (by decide)) (se_ix (se_var (pv 1)) se_int) (se_var (pv 0))) (sss_cons (ss_fld (cs := ["Step"]) (one_no (inf_Step ev) (by decide)) (se_fn (ok_least_place ev) hr (by omega) cx_takes (sa_cons (se_att (se_var (pv 0))) sa_nil)) (se_var (pv 0))) (sss_cons (ss_fld (cs := ["Step"]) (one_no (inf_Step ev) (by decide)) (se_fn (ok__kind_of ev) hr (by omega) cx_takes (sa_cons (se_att (se_var (pv 0))) sa_nil)) (se_var (pv 0))) (sss_cons (ss_fld (cs := ["Step"]) (one_no (inf_Step ev) (by decide)) se_non (se_var (pv 0))) (sss_cons (ss_fld (cs := ["Step"]) (one_no (inf_Step ev) (by decide)) se_non (se_var (pv 0))) (sss_cons (ss_if (st_eq hr (se_att (se_var (pv 0))) se_str) (sss_cons (ss_set sc_Step___init__.nd (i := 2) rfl (by first | exact Or.inl rfl | exact Or.inr rfl) (se_fn (ok__bend_of ev) hr (by omega) cx_takes (sa_cons (se_att (se_var (pv 0))) sa_nil))) (sss_cons (ss_fld (cs := ["Step"]) (one_no (inf_Step ev) (by decide)) (se_sub (se_var (pv 2)) se_int) (se_var (pv 0))) (sss_one (ss_fld (cs := ["Step"]) (one_no (inf_Step ev) (by decide)) (se_ix (se_var (pv 1)) (se_sub (se_var (pv 2)) se_int)) (se_var (pv 0)))))) sss_nil) (sss_one (ss_if (st_eq hr (se_att (se_var (pv 0))) se_str) (sss_one (ss_fld (cs := ["Step"]) (one_no (inf_Step ev) (by decide)) (se_ix (se_var (pv 1)) (se_sub (se_att (se_var (pv 0))) se_int)) (se_var (pv 0)))) sss_nil)))))))))))
abbrev mdp_Step : List (Nat × List Str × Bool) := [(1, [], false)]
theorem mkp_Step (ev : Ev K mg base) : MkP P w K mg base "Step" 4 1 f_Step___init__ mdp_Step := by
  obtain ⟨fd, F⟩ := ev.says.def_ D_Step___init__ rfl
  refine ⟨⟨_, fd, _, (inf_Step ev).mkr, fk_Step___init__ ev F, ?_⟩, ev.glo "Step", (inf_Step ev).cls [] (by simp), chk_len⟩
  intro md h
  simp only [mdp_Step, List.mem_cons, List.not_mem_nil, or_false] at h
  subst h
  exact kbn F 2 [] false (fun _ _ _ _ _ _ us ws h1 h2 => match us, ws, h1, h2 with | [_, _], [], _, _ => rfl)
abbrev N_Step_numbers : List Str := ["self"]
abbrev st_Step_numbers : Stmt := inCls (top 51) 3
theorem sc_Step_numbers : FnScope N_Step_numbers ["self"] (defScope st_Step_numbers) := ⟨rfl, rfl, rfl, by decide +kernel, rfl, by decide +kernel, by decide +kernel⟩
def m_Step_numbers : Sm := (sRet (eSl false (eUn (attD "_numbers") (eVar 0)) (pSome (eC (.int 1))) pNone))
def f_Step_numbers : List D → Sto → Res D := chk 1 (runDef 1 m_Step_numbers)
theorem fk_Step_numbers (ev : Ev K mg base) {fd : FuncData} (F : FunD K "numbers" "Step.numbers" (defArgs st_Step_numbers) (defBody st_Step_numbers) (defScope st_Step_numbers) [] [] (He.ma K (He.ga K "Step") "numbers") fd) : FnOk P w K mg base (CXp P w) 1 (He.ma K (He.ga K "Step") "numbers") fd ["self"] (spM K 1 f_Step_numbers) := by
  have h : spM K 1 f_Step_numbers = spM K 1 (runDef 1 m_Step_numbers) := runDef_chk
  rw [h]
  exact fn_sim (N := N_Step_numbers) F sc_Step_numbers fun cdv A outer s H E hr => (sss_one (ss_ret (se_sl (k := false) (se_att (se_var (pv 0))) (sp_some se_int) sp_none)))
abbrev mdm_Step_numbers : List (Nat × List Str × Bool) := []
theorem fm_Step_numbers (ev : Ev K mg base) : FnM P w K mg base "Step" "numbers" 1 1 f_Step_numbers mdm_Step_numbers := by
  obtain ⟨fd, F⟩ := ev.says.def_ D_Step_numbers rfl
  refine ⟨⟨fd, _, fk_Step_numbers ev F, (F.bindsN fun _ _ _ _ _ _ us hl => match us, hl with | [_], _ => rfl), fun md h => nomatch h⟩, ev.meth (e := ("Step", "numbers")) (by decide +kernel), (inf_Step ev).hno, chk_len⟩
abbrev N_Step___eq__ : List Str := ["self", "other"]
abbrev st_Step___eq__ : Stmt := inCls (top 51) 15
theorem sc_Step___eq__ : FnScope N_Step___eq__ ["self", "other"] (defScope st_Step___eq__) := ⟨rfl, rfl, rfl, by decide +kernel, rfl, by decide +kernel, by decide +kernel⟩
def m_Step___eq__ : Sm := (sRet (eAnd (eUn (isiD (isP clsL "Step")) (eVar 1)) (eBin eqD (eUn (attD "_numbers") (eVar 0)) (eUn (attD "_numbers") (eVar 1)))))
def f_Step___eq__ : List D → Sto → Res D := chk 2 (runDef 2 m_Step___eq__)
theorem fk_Step___eq__ (ev : Ev K mg base) {fd : FuncData} (F : FunD K "__eq__" "Step.__eq__" (defArgs st_Step___eq__) (defBody st_Step___eq__) (defScope st_Step___eq__) [] [] (He.ma K (He.ga K "Step") "__eq__") fd) : FnOk P w K mg base (CXp P w) 1 (He.ma K (He.ga K "Step") "__eq__") fd ["self", "other"] (spM K 2 f_Step___eq__) := by
  have h : spM K 2 f_Step___eq__ = spM K 2 (runDef 2 m_Step___eq__) := runDef_chk
  rw [h]
  exact fn_sim (N := N_Step___eq__) F sc_Step___eq__ fun cdv A outer s H E hr => (sss_one (ss_ret (se_and (se_isi (ev.free "isinstance") (se_var (pv 1)) (cls_own (ev.glo "Step")) (isP_ok ev.clsb (by decide +kernel))) (se_one (se_eq hr (se_att (se_var (pv 0))) (se_att (se_var (pv 1))))))))
abbrev mdm_Step___eq__ : List (Nat × List Str × Bool) := []
theorem fm_Step___eq__ (ev : Ev K mg base) : FnM P w K mg base "Step" "__eq__" 1 2 f_Step___eq__ mdm_Step___eq__ := by
  obtain ⟨fd, F⟩ := ev.says.def_ D_Step___eq__ rfl
  refine ⟨⟨fd, _, fk_Step___eq__ ev F, (F.bindsN fun _ _ _ _ _ _ us hl => match us, hl with | [_, _], _ => rfl), fun md h => nomatch h⟩, ev.meth (e := ("Step", "__eq__")) (by decide +kernel), (inf_Step ev).hno, chk_len⟩
abbrev N__is_line : List Str := ["line", "size"]
abbrev st__is_line : Stmt := top 56
theorem sc__is_line : FnScope N__is_line ["line", "size"] (defScope st__is_line) := ⟨rfl, rfl, rfl, by decide +kernel, rfl, by decide +kernel, by decide +kernel⟩
def m__is_line : Sm := (sSeq (sIf (tOr (tNot (tOf (eUn (isiD (isB2 "list" "tuple" clsL)) (eVar 0)))) (tOf (eBin neD (eCB lenD (aCons (eVar 0) aNil)) (eVar 1)))) (sRet (eC (.bl false))) sNil) (sRet (eBin isN (eCall f_first_no_fraction (aCons (eVar 0) aNil) []) (eC .non))))
def f__is_line : List D → Sto → Res D := chk 2 (runDef 2 m__is_line)
theorem fk__is_line (ev : Ev K mg base) {fd : FuncData} (F : FunD K "_is_line" "_is_line" (defArgs st__is_line) (defBody st__is_line) (defScope st__is_line) [] [] (He.ga K "_is_line") fd) : FnOk P w K mg base (CXp P w) 3 (He.ga K "_is_line") fd ["line", "size"] (spM K 2 f__is_line) := by
  have h : spM K 2 f__is_line = spM K 2 (runDef 2 m__is_line) := runDef_chk
  rw [h]
  exact fn_sim (N := N__is_line) F sc__is_line fun cdv A outer s H E hr => (sss_cons (ss_if (st_sw (sw_or (st_not (st_val (se_isi2 (ev.free "isinstance") (se_var (pv 0)) (cls_ty (ev.free "list")) (cls_ty (ev.free "tuple")) (isB2_ok (by decide) (by decide) (ev.nocs (by decide)) (ev.nocs (by decide)))))) (sw_or1 (st_ne hr (se_cb call_len gc_len (ev.free "len") (sa_cons (se_var (pv 0)) sa_nil)) (se_var (pv 1)))))) (sss_one (ss_ret se_bl)) sss_nil) (sss_one (ss_ret (se_isN (se_fn (ok_first_no_fraction ev) hr (by omega) cx_takes (sa_cons (se_var (pv 0)) sa_nil)) se_non))))
theorem ok__is_line (ev : Ev K mg base) : Fn P w K mg base "_is_line" 3 2 f__is_line := by
  obtain ⟨fd, F⟩ := ev.says.def_ D__is_line rfl
  exact ⟨⟨fd, ["line", "size"], fk__is_line ev F, (F.bindsN fun _ _ _ _ _ _ us hl => match us, hl with | [_, _], _ => rfl)⟩, ev.glo "_is_line", F.kp, chk_len⟩
theorem inf_Table (ev : Ev K mg base) : InF K "Table" ["_lines", "order"] := ev.inf (e := ("Table", ["_lines", "order"])) (by decide +kernel)
abbrev N_Table___init__ : List Str := ["self", "lines", "at", "line"]
abbrev st_Table___init__ : Stmt := inCls (top 55) 0
theorem sc_Table___init__ : FnScope N_Table___init__ ["self", "lines"] (defScope st_Table___init__) := ⟨rfl, rfl, rfl, by decide +kernel, rfl, by decide +kernel, by decide +kernel⟩
def m_Table___init__ : Sm := (sSeq (sIf (tNot (tOf (eUn (isiD (isB2 "list" "tuple" clsL)) (eVar 1)))) (sRaise "InvalidTable" tp_InvalidTable 1 (aCons (eUn negI (eC (.int 1))) aNil)) sNil) (sSeq (sIf (tNot (tOf (eCall f_is_order (aCons (eCB lenD (aCons (eVar 1) aNil)) aNil) []))) (sRaise "InvalidOrder" tp_InvalidOrder 1 (aCons (eCB lenD (aCons (eVar 1) aNil)) aNil)) sNil) (sSeq (sFor (iEnum2M (aCons (eVar 1) aNil)) (gT 2 (gsCons (gN 2) (gsCons (gN 3) gsNil))) (sIf (tNot (tOf (eCall f__is_line (aCons (eVar 3) (aCons (eCB lenD (aCons (eVar 1) aNil)) aNil)) []))) (sRaise "InvalidTable" tp_InvalidTable 1 (aCons (eVar 2) aNil)) sNil)) (sSeq (sFldM ["Table"] "_lines" (eComp false [3] (iVal (eVar 1)) (gN 3) tTrue (eCB (listD false) (aCons (eVar 3) aNil))) (eVar 0)) (sFldM ["Table"] "order" (eCB lenD (aCons (eVar 1) aNil)) (eVar 0))))))
def f_Table___init__ : List D → Sto → Res D := chk 2 (runDef 4 m_Table___init__)
theorem fk_Table___init__ (ev : Ev K mg base) {fd : FuncData} (F : FunD K "__init__" "Table.__init__" (defArgs st_Table___init__) (defBody st_Table___init__) (defScope st_Table___init__) [] [] (He.ma K (He.ga K "Table") "__init__") fd) : FnOk P w K mg base (CXp P w) 4 (He.ma K (He.ga K "Table") "__init__") fd ["self", "lines"] (spM K 2 f_Table___init__) := by
  have h : spM K 2 f_Table___init__ = spM K 2 (runDef 4 m_Table___init__) := runDef_chk
  rw [h]
  exact fn_sim (N := N_Table___init__) F sc_Table___init__ fun cdv A outer s H E hr => (sss_cons (ss_if (st_not (st_val (se_isi2 (ev.free "isinstance") (se_var (pv 1)) (cls_ty (ev.free "list")) (cls_ty (ev.free "tuple")) (isB2_ok (by decide) (by decide) (ev.nocs (by decide)) (ev.nocs (by decide)))))) (sss_one (ss_raise (k := 0) rfl (mk_InvalidTable ev) (hr.mono (by omega)) cx_takes (sa_cons (se_neg se_int) sa_nil) (by simp [md_InvalidTable]))) sss_nil) (sss_cons (ss_if (st_not (st_val (se_fn (ok_is_order ev) hr (by omega) cx_takes (sa_cons (se_cb call_len gc_len (ev.free "len") (sa_cons (se_var (pv 1)) sa_nil)) sa_nil)))) (sss_one (ss_raise (k := 0) rfl (mk_InvalidOrder ev) (hr.mono (by omega)) cx_takes (sa_cons (se_cb call_len gc_len (ev.free "len") (sa_cons (se_var (pv 1)) sa_nil)) sa_nil) (by simp [md_InvalidOrder]))) sss_nil) (sss_cons (ss_for cx_own rfl (si_enum2 (ev.free "enumerate") (sa_cons (se_var (pv 1)) sa_nil)) (sg_tup rfl (sgs_cons (sg_name (i := 2) sc_Table___init__.nd rfl (by first | exact Or.inl rfl | exact Or.inr rfl)) (sgs_cons (sg_name (i := 3) sc_Table___init__.nd rfl (by first | exact Or.inl rfl | exact Or.inr rfl)) sgs_nil))) (sss_one (ss_if (st_not (st_val (se_fn (ok__is_line ev) hr (by omega) cx_takes (sa_cons (se_var (pv 3)) (sa_cons (se_cb call_len gc_len (ev.free "len") (sa_cons (se_var (pv 1)) sa_nil)) sa_nil))))) (sss_one (ss_raise (k := 0) rfl (mk_InvalidTable ev) (hr.mono (by omega)) cx_takes (sa_cons (se_var (pv 2)) sa_nil) (by simp [md_InvalidTable]))) sss_nil))) (sss_cons (ss_fld (cs := ["Table"]) (one_no (inf_Table ev) (by decide)) (se_comp (k := false) (own := [("line", 3)]) rfl sc_Table___init__.nd (si_val (se_var (pv 1))) (blkOk_by (N := N_Table___init__) (sc := defScope st_Table___init__) (own := [("line", 3)]) (by decide +kernel)) (fun _ _ _ _ _ => (pg_name (i := 3) sc_Table___init__.nd rfl (Or.inl rfl))) (grel_name (i := 3) (by decide)) (fun _ _ _ _ _ => (se_cty call_list_of (gc_list (k := false)) (ev.free "list") (sa_cons (se_var (pv 3)) sa_nil)))) (se_var (pv 0))) (sss_one (ss_fld (cs := ["Table"]) (one_no (inf_Table ev) (by decide)) (se_cb call_len gc_len (ev.free "len") (sa_cons (se_var (pv 1)) sa_nil)) (se_var (pv 0))))))))
abbrev mdp_Table : List (Nat × List Str × Bool) := [(1, [], false)]
theorem mkp_Table (ev : Ev K mg base) : MkP P w K mg base "Table" 4 1 f_Table___init__ mdp_Table := by
  obtain ⟨fd, F⟩ := ev.says.def_ D_Table___init__ rfl
  refine ⟨⟨_, fd, _, (inf_Table ev).mkr, fk_Table___init__ ev F, ?_⟩, ev.glo "Table", (inf_Table ev).cls [] (by simp), chk_len⟩
  intro md h
  simp only [mdp_Table, List.mem_cons, List.not_mem_nil, or_false] at h
  subst h
  exact kbn F 2 [] false (fun _ _ _ _ _ _ us ws h1 h2 => match us, ws, h1, h2 with | [_, _], [], _, _ => rfl)
abbrev N_Table_lines : List Str := ["self", "line"]
abbrev st_Table_lines : Stmt := inCls (top 55) 1
theorem sc_Table_lines : FnScope N_Table_lines ["self"] (defScope st_Table_lines) := ⟨rfl, rfl, rfl, by decide +kernel, rfl, by decide +kernel, by decide +kernel⟩
def m_Table_lines : Sm := (sRet (eComp false [1] (iVal (eUn (attD "_lines") (eVar 0))) (gN 1) tTrue (eCB (listD false) (aCons (eVar 1) aNil))))
def f_Table_lines : List D → Sto → Res D := chk 1 (runDef 2 m_Table_lines)
theorem fk_Table_lines (ev : Ev K mg base) {fd : FuncData} (F : FunD K "lines" "Table.lines" (defArgs st_Table_lines) (defBody st_Table_lines) (defScope st_Table_lines) [] [] (He.ma K (He.ga K "Table") "lines") fd) : FnOk P w K mg base (CXp P w) 1 (He.ma K (He.ga K "Table") "lines") fd ["self"] (spM K 1 f_Table_lines) := by
  have h : spM K 1 f_Table_lines = spM K 1 (runDef 2 m_Table_lines) := runDef_chk
  rw [h]
  exact fn_sim (N := N_Table_lines) F sc_Table_lines fun cdv A outer s H E hr => (sss_one (ss_ret (se_comp (k := false) (own := [("line", 1)]) rfl sc_Table_lines.nd (si_val (se_att (se_var (pv 0)))) (blkOk_by (N := N_Table_lines) (sc := defScope st_Table_lines) (own := [("line", 1)]) (by decide +kernel)) (fun _ _ _ _ _ => (pg_name (i := 1) sc_Table_lines.nd rfl (Or.inl rfl))) (grel_name (i := 1) (by decide)) (fun _ _ _ _ _ => (se_cty call_list_of (gc_list (k := false)) (ev.free "list") (sa_cons (se_var (pv 1)) sa_nil))))))
abbrev mdm_Table_lines : List (Nat × List Str × Bool) := []
theorem fm_Table_lines (ev : Ev K mg base) : FnM P w K mg base "Table" "lines" 1 1 f_Table_lines mdm_Table_lines := by
  obtain ⟨fd, F⟩ := ev.says.def_ D_Table_lines rfl
  refine ⟨⟨fd, _, fk_Table_lines ev F, (F.bindsN fun _ _ _ _ _ _ us hl => match us, hl with | [_], _ => rfl), fun md h => nomatch h⟩, ev.meth (e := ("Table", "lines")) (by decide +kernel), (inf_Table ev).hno, chk_len⟩
abbrev N_Table_power_line : List Str := ["self", "line"]
abbrev st_Table_power_line : Stmt := inCls (top 55) 2
theorem sc_Table_power_line : FnScope N_Table_power_line ["self", "line"] (defScope st_Table_power_line) := ⟨rfl, rfl, rfl, by decide +kernel, rfl, by decide +kernel, by decide +kernel⟩
def m_Table_power_line : Sm := (sSeq (sIf (tOr (tNot (tOf (eCall f_is_whole (aCons (eVar 1) aNil) []))) (tNot (tOf (eChain leI leI (eC (.int 1)) (eVar 1) (eUn (attD "order") (eVar 0)))))) (sRaise "InvalidPlace" tp_InvalidPlace 1 (aCons (eVar 1) aNil)) sNil) (sRet (eCB (listD false) (aCons (eBin ixD (eUn (attD "_lines") (eVar 0)) (eBin subI (eVar 1) (eC (.int 1)))) aNil))))
def f_Table_power_line : List D → Sto → Res D := chk 2 (runDef 2 m_Table_power_line)
theorem fk_Table_power_line (ev : Ev K mg base) {fd : FuncData} (F : FunD K "power_line" "Table.power_line" (defArgs st_Table_power_line) (defBody st_Table_power_line) (defScope st_Table_power_line) [] [] (He.ma K (He.ga K "Table") "power_line") fd) : FnOk P w K mg base (CXp P w) 3 (He.ma K (He.ga K "Table") "power_line") fd ["self", "line"] (spM K 2 f_Table_power_line) := by
  have h : spM K 2 f_Table_power_line = spM K 2 (runDef 2 m_Table_power_line) := runDef_chk
  rw [h]
  exact fn_sim (N := N_Table_power_line) F sc_Table_power_line fun cdv A outer s H E hr => (sss_cons (ss_if (st_sw (sw_or (st_not (st_val (se_fn (ok_is_whole ev) hr (by omega) cx_takes (sa_cons (se_var (pv 1)) sa_nil)))) (sw_or1 (st_not (st_chain op_le op_le gop_le gop_le se_int (se_var (pv 1)) (se_att (se_var (pv 0)))))))) (sss_one (ss_raise (k := 0) rfl (mk_InvalidPlace ev) (hr.mono (by omega)) cx_takes (sa_cons (se_var (pv 1)) sa_nil) (by simp [md_InvalidPlace]))) sss_nil) (sss_one (ss_ret (se_cty call_list_of (gc_list (k := false)) (ev.free "list") (sa_cons (se_ix (se_att (se_var (pv 0))) (se_sub (se_var (pv 1)) se_int)) sa_nil)))))
abbrev mdm_Table_power_line : List (Nat × List Str × Bool) := []
theorem fm_Table_power_line (ev : Ev K mg base) : FnM P w K mg base "Table" "power_line" 3 2 f_Table_power_line mdm_Table_power_line := by
  obtain ⟨fd, F⟩ := ev.says.def_ D_Table_power_line rfl
  refine ⟨⟨fd, _, fk_Table_power_line ev F, (F.bindsN fun _ _ _ _ _ _ us hl => match us, hl with | [_, _], _ => rfl), fun md h => nomatch h⟩, ev.meth (e := ("Table", "power_line")) (by decide +kernel), (inf_Table ev).hno, chk_len⟩
abbrev N_Table_number : List Str := ["self", "line", "place", "value"]
abbrev st_Table_number : Stmt := inCls (top 55) 3
theorem sc_Table_number : FnScope N_Table_number ["self", "line", "place"] (defScope st_Table_number) := ⟨rfl, rfl, rfl, by decide +kernel, rfl, by decide +kernel, by decide +kernel⟩
def m_Table_number : Sm := (sSeq (sFor (iVal (eTup (aCons (eVar 1) (aCons (eVar 2) aNil)))) (gN 3) (sIf (tOr (tNot (tOf (eCall f_is_whole (aCons (eVar 3) aNil) []))) (tNot (tOf (eChain leI leI (eC (.int 1)) (eVar 3) (eUn (attD "order") (eVar 0)))))) (sRaise "InvalidPlace" tp_InvalidPlace 1 (aCons (eVar 3) aNil)) sNil)) (sRet (eBin ixD (eBin ixD (eUn (attD "_lines") (eVar 0)) (eBin subI (eVar 1) (eC (.int 1)))) (eBin subI (eVar 2) (eC (.int 1))))))
def f_Table_number : List D → Sto → Res D := chk 3 (runDef 4 m_Table_number)
theorem fk_Table_number (ev : Ev K mg base) {fd : FuncData} (F : FunD K "number" "Table.number" (defArgs st_Table_number) (defBody st_Table_number) (defScope st_Table_number) [] [] (He.ma K (He.ga K "Table") "number") fd) : FnOk P w K mg base (CXp P w) 3 (He.ma K (He.ga K "Table") "number") fd ["self", "line", "place"] (spM K 3 f_Table_number) := by
  have h : spM K 3 f_Table_number = spM K 3 (runDef 4 m_Table_number) := runDef_chk
  rw [h]
  exact fn_sim (N := N_Table_number) F sc_Table_number fun cdv A outer s H E hr => (sss_cons (ss_for cx_own rfl (si_val (se_tup (sa_cons (se_var (pv 1)) (sa_cons (se_var (pv 2)) sa_nil)))) (sg_name (i := 3) sc_Table_number.nd rfl (by first | exact Or.inl rfl | exact Or.inr rfl)) (sss_one (ss_if (st_sw (sw_or (st_not (st_val (se_fn (ok_is_whole ev) hr (by omega) cx_takes (sa_cons (se_var (pv 3)) sa_nil)))) (sw_or1 (st_not (st_chain op_le op_le gop_le gop_le se_int (se_var (pv 3)) (se_att (se_var (pv 0)))))))) (sss_one (ss_raise (k := 0) rfl (mk_InvalidPlace ev) (hr.mono (by omega)) cx_takes (sa_cons (se_var (pv 3)) sa_nil) (by simp [md_InvalidPlace]))) sss_nil))) (sss_one (ss_ret (se_ix (se_ix (se_att (se_var (pv 0))) (se_sub (se_var (pv 1)) se_int)) (se_sub (se_var (pv 2)) se_int)))))
abbrev mdm_Table_number : List (Nat × List Str × Bool) := []
theorem fm_Table_number (ev : Ev K mg base) : FnM P w K mg base "Table" "number" 3 3 f_Table_number mdm_Table_number := by
  obtain ⟨fd, F⟩ := ev.says.def_ D_Table_number rfl
  refine ⟨⟨fd, _, fk_Table_number ev F, (F.bindsN fun _ _ _ _ _ _ us hl => match us, hl with | [_, _, _], _ => rfl), fun md h => nomatch h⟩, ev.meth (e := ("Table", "number")) (by decide +kernel), (inf_Table ev).hno, chk_len⟩
abbrev N_Table___eq__ : List Str := ["self", "other"]
abbrev st_Table___eq__ : Stmt := inCls (top 55) 5
theorem sc_Table___eq__ : FnScope N_Table___eq__ ["self", "other"] (defScope st_Table___eq__) := ⟨rfl, rfl, rfl, by decide +kernel, rfl, by decide +kernel, by decide +kernel⟩
def m_Table___eq__ : Sm := (sRet (eAnd (eUn (isiD (isP clsL "Table")) (eVar 1)) (eBin eqD (eUn (attD "_lines") (eVar 0)) (eUn (attD "_lines") (eVar 1)))))
def f_Table___eq__ : List D → Sto → Res D := chk 2 (runDef 2 m_Table___eq__)
theorem fk_Table___eq__ (ev : Ev K mg base) {fd : FuncData} (F : FunD K "__eq__" "Table.__eq__" (defArgs st_Table___eq__) (defBody st_Table___eq__) (defScope st_Table___eq__) [] [] (He.ma K (He.ga K "Table") "__eq__") fd) : FnOk P w K mg base (CXp P w) 1 (He.ma K (He.ga K "Table") "__eq__") fd ["self", "other"] (spM K 2 f_Table___eq__) := by
  have h : spM K 2 f_Table___eq__ = spM K 2 (runDef 2 m_Table___eq__) := runDef_chk
  rw [h]
  exact fn_sim (N := N_Table___eq__) F sc_Table___eq__ fun cdv A outer s H E hr => (sss_one (ss_ret (se_and (se_isi (ev.free "isinstance") (se_var (pv 1)) (cls_own (ev.glo "Table")) (isP_ok ev.clsb (by decide +kernel))) (se_one (se_eq hr (se_att (se_var (pv 0))) (se_att (se_var (pv 1))))))))
abbrev mdm_Table___eq__ : List (Nat × List Str × Bool) := []
theorem fm_Table___eq__ (ev : Ev K mg base) : FnM P w K mg base "Table" "__eq__" 1 2 f_Table___eq__ mdm_Table___eq__ := by
  obtain ⟨fd, F⟩ := ev.says.def_ D_Table___eq__ rfl
  refine ⟨⟨fd, _, fk_Table___eq__ ev F, (F.bindsN fun _ _ _ _ _ _ us hl => match us, hl with | [_, _], _ => rfl), fun md h => nomatch h⟩, ev.meth (e := ("Table", "__eq__")) (by decide +kernel), (inf_Table ev).hno, chk_len⟩
abbrev N_table_of : List Str := ["step", "line"]
abbrev st_table_of : Stmt := top 57
theorem sc_table_of : FnScope N_table_of ["step"] (defScope st_table_of) := ⟨rfl, rfl, rfl, by decide +kernel, rfl, by decide +kernel, by decide +kernel⟩
def m_table_of : Sm := (sRet (eFrz (eMkP "Table" f_Table___init__ 1 0 false (aCons (eComp false [1] (iVal (eCall f_powers_of (aCons (eBin (catL false) (eLst false (aCons (eC (.tup [.int 0, .int 1])) aNil)) (eMeth "Step" "numbers" f_Step_numbers (eVar 0) aNil)) aNil) [])) (gN 1) tTrue (eSl false (eVar 1) (pSome (eC (.int 1))) pNone)) aNil) aNil)))
def f_table_of : List D → Sto → Res D := chk 1 (runDef 2 m_table_of)
theorem fk_table_of (ev : Ev K mg base) {fd : FuncData} (F : FunD K "table_of" "table_of" (defArgs st_table_of) (defBody st_table_of) (defScope st_table_of) [] [] (He.ga K "table_of") fd) : FnOk P w K mg base (CXp P w) 6 (He.ga K "table_of") fd ["step"] (spM K 1 f_table_of) := by
  have h : spM K 1 f_table_of = spM K 1 (runDef 2 m_table_of) := runDef_chk
  rw [h]
  exact fn_sim (N := N_table_of) F sc_table_of fun cdv A outer s H E hr => (sss_one (ss_ret (se_frz (se_mkP (mkp_Table ev) hr (by omega) cx_takes (inf_Table ev).mkr.kp (sa_cons (se_comp (k := false) (own := [("line", 1)]) rfl sc_table_of.nd (si_val (se_fn (ok_powers_of ev) hr (by omega) cx_takes (sa_cons (se_cat (k := false) (se_lst (k := false) (sa_cons (se_glob (ev.glo "ZERO") (fun w _ => rep_ktup (ns := [0, 1]) (ev.tup (e := ("ZERO", [0, 1])) (by decide +kernel)) w)) sa_nil)) (se_fm0 (fm_Step_numbers ev) hr (by omega) cx_takes (se_var (pv 0)))) sa_nil))) (blkOk_by (N := N_table_of) (sc := defScope st_table_of) (own := [("line", 1)]) (by decide +kernel)) (fun _ _ _ _ _ => (pg_name (i := 1) sc_table_of.nd rfl (Or.inl rfl))) (grel_name (i := 1) (by decide)) (fun _ _ _ _ _ => (se_sl (k := false) (se_var (pv 1)) (sp_some se_int) sp_none))) sa_nil) (by simp [mdp_Table])))))
theorem ok_table_of (ev : Ev K mg base) : Fn P w K mg base "table_of" 6 1 f_table_of := by
  obtain ⟨fd, F⟩ := ev.says.def_ D_table_of rfl
  exact ⟨⟨fd, ["step"], fk_table_of ev F, (F.bindsN fun _ _ _ _ _ _ us hl => match us, hl with | [_], _ => rfl)⟩, ev.glo "table_of", F.kp, chk_len⟩
abbrev N_step_of_table : List Str := ["table", "step", "right", "line", "place"]
abbrev st_step_of_table : Stmt := top 58
theorem sc_step_of_table : FnScope N_step_of_table ["table"] (defScope st_step_of_table) := ⟨rfl, rfl, rfl, by decide +kernel, rfl, by decide +kernel, by decide +kernel⟩
def m_step_of_table : Sm := (sSeq (sSet 1 (eFrz (eMkP "Step" f_Step___init__ 1 0 false (aCons (eMeth "Table" "power_line" f_Table_power_line (eVar 0) (aCons (eC (.int 1)) aNil)) aNil) aNil))) (sSeq (sSet 2 (eCall f_table_of (aCons (eVar 1) aNil) [])) (sSeq (sFor (iRange2 (aCons (eC (.int 2)) (aCons (eBin addD (eUn (attD "order") (eVar 0)) (eC (.int 1))) aNil))) (gN 3) (sFor (iRange2 (aCons (eC (.int 1)) (aCons (eBin addD (eUn (attD "order") (eVar 0)) (eC (.int 1))) aNil))) (gN 4) (sIf (tOf (eBin neD (eMeth "Table" "number" f_Table_number (eVar 0) (aCons (eVar 3) (aCons (eVar 4) aNil))) (eMeth "Table" "number" f_Table_number (eVar 2) (aCons (eVar 3) (aCons (eVar 4) aNil))))) (sRaise "NotATable" tp_NotATable 2 (aCons (eVar 3) (aCons (eVar 4) aNil))) sNil))) (sRet (eVar 1)))))
def f_step_of_table : List D → Sto → Res D := chk 1 (runDef 5 m_step_of_table)
theorem fk_step_of_table (ev : Ev K mg base) {fd : FuncData} (F : FunD K "step_of_table" "step_of_table" (defArgs st_step_of_table) (defBody st_step_of_table) (defScope st_step_of_table) [] [] (He.ga K "step_of_table") fd) : FnOk P w K mg base (CXp P w) 7 (He.ga K "step_of_table") fd ["table"] (spM K 1 f_step_of_table) := by
  have h : spM K 1 f_step_of_table = spM K 1 (runDef 5 m_step_of_table) := runDef_chk
  rw [h]
  exact fn_sim (N := N_step_of_table) F sc_step_of_table fun cdv A outer s H E hr => (sss_cons (ss_set sc_step_of_table.nd (i := 1) rfl (by first | exact Or.inl rfl | exact Or.inr rfl) (se_frz (se_mkP (mkp_Step ev) hr (by omega) cx_takes (inf_Step ev).mkr.kp (sa_cons (se_fm (fm_Table_power_line ev) hr (by omega) cx_takes (se_var (pv 0)) (sa_cons se_int sa_nil)) sa_nil) (by simp [mdp_Step])))) (sss_cons (ss_set sc_step_of_table.nd (i := 2) rfl (by first | exact Or.inl rfl | exact Or.inr rfl) (se_fn (ok_table_of ev) hr (by omega) cx_takes (sa_cons (se_var (pv 1)) sa_nil))) (sss_cons (ss_for cx_own rfl (si_range2 (ev.free "range") (sa_cons se_int (sa_cons (se_add (se_att (se_var (pv 0))) se_int) sa_nil))) (sg_name (i := 3) sc_step_of_table.nd rfl (by first | exact Or.inl rfl | exact Or.inr rfl)) (sss_one (ss_for cx_own rfl (si_range2 (ev.free "range") (sa_cons se_int (sa_cons (se_add (se_att (se_var (pv 0))) se_int) sa_nil))) (sg_name (i := 4) sc_step_of_table.nd rfl (by first | exact Or.inl rfl | exact Or.inr rfl)) (sss_one (ss_if (st_ne hr (se_fm (fm_Table_number ev) hr (by omega) cx_takes (se_var (pv 0)) (sa_cons (se_var (pv 3)) (sa_cons (se_var (pv 4)) sa_nil))) (se_fm (fm_Table_number ev) hr (by omega) cx_takes (se_var (pv 2)) (sa_cons (se_var (pv 3)) (sa_cons (se_var (pv 4)) sa_nil)))) (sss_one (ss_raise (k := 0) rfl (mk_NotATable ev) (hr.mono (by omega)) cx_takes (sa_cons (se_var (pv 3)) (sa_cons (se_var (pv 4)) sa_nil)) (by simp [md_NotATable]))) sss_nil))))) (sss_one (ss_ret (se_var (pv 1)))))))
theorem ok_step_of_table (ev : Ev K mg base) : Fn P w K mg base "step_of_table" 7 1 f_step_of_table := by
  obtain ⟨fd, F⟩ := ev.says.def_ D_step_of_table rfl
  exact ⟨⟨fd, ["table"], fk_step_of_table ev F, (F.bindsN fun _ _ _ _ _ _ us hl => match us, hl with | [_], _ => rfl)⟩, ev.glo "step_of_table", F.kp, chk_len⟩
abbrev mdk_step_of_table : List (Nat × List Str × Bool) := [(0, ["table"], false)]
theorem okk_step_of_table (ev : Ev K mg base) : FnK P w K mg base "step_of_table" 7 1 f_step_of_table mdk_step_of_table := by
  obtain ⟨fd, F⟩ := ev.says.def_ D_step_of_table rfl
  refine ⟨⟨fd, ["table"], fk_step_of_table ev F, ?_⟩, ev.glo "step_of_table", F.kp, chk_len⟩
  intro md h
  simp only [mdk_step_of_table, List.mem_cons, List.not_mem_nil, or_false] at h
  subst h
  exact kbn F 0 ["table"] false (fun _ _ _ _ _ _ us ws h1 h2 => match us, ws, h1, h2 with | [], [_], _, _ => rfl)
abbrev N__law_bag : List Str := ["_law_script", "_law_seed", "_law_item"]
abbrev st__law_bag : Stmt := top 60
theorem sc__law_bag : FnScope N__law_bag ["_law_script"] (defScope st__law_bag) := ⟨rfl, rfl, rfl, by decide +kernel, rfl, by decide +kernel, by decide +kernel⟩
def m__law_bag : Sm := (sSeq (sSet 1 (eC (.int 13960))) (sSeq (sFor (iVal (eSl false (eVar 0) pNone (pSome (eC (.int 63))))) (gN 2) (sSet 1 (eBin modI (eCB intD (aCons (eBin addD (eBin addD (eBin mulI (eVar 1) (eC (.int 48271))) (eBin modI (eCB intD (aCons (eVar 2) aNil)) (eC (.int 2147483587)))) (eC (.int 307))) aNil)) (eC (.int 2147483629))))) (sRet (eLst true (aCons (eCB (listD false) (aCons (eSl false (eVar 0) pNone (pSome (eC (.int 63)))) aNil)) (aCons (eC (.int 0)) (aCons (eC (.int 0)) (aCons (eVar 1) (aCons (eC (.int 0)) aNil)))))))))
def f__law_bag : List D → Sto → Res D := chk 1 (runDef 3 m__law_bag)
theorem fk__law_bag (ev : Ev K mg base) {fd : FuncData} (F : FunD K "_law_bag" "_law_bag" (defArgs st__law_bag) (defBody st__law_bag) (defScope st__law_bag) [] [] (He.ga K "_law_bag") fd) : FnOk P w K mg base (CXp P w) 1 (He.ga K "_law_bag") fd ["_law_script"] (spM K 1 f__law_bag) := by
  have h : spM K 1 f__law_bag = spM K 1 (runDef 3 m__law_bag) := runDef_chk
  rw [h]
  exact fn_sim (N := N__law_bag) F sc__law_bag fun cdv A outer s H E hr => (sss_cons (ss_set sc__law_bag.nd (i := 1) rfl (by first | exact Or.inl rfl | exact Or.inr rfl) se_int) (sss_cons (ss_for cx_own rfl (si_val (se_sl (k := false) (se_var (pv 0)) sp_none (sp_some se_int))) (sg_name (i := 2) sc__law_bag.nd rfl (by first | exact Or.inl rfl | exact Or.inr rfl)) (sss_one (ss_set sc__law_bag.nd (i := 1) rfl (by first | exact Or.inl rfl | exact Or.inr rfl) (se_mod (se_cty call_int1 gc_int (ev.free "int") (sa_cons (se_add (se_add (se_mul (se_var (pv 1)) se_int) (se_mod (se_cty call_int1 gc_int (ev.free "int") (sa_cons (se_var (pv 2)) sa_nil)) se_int)) se_int) sa_nil)) se_int)))) (sss_one (ss_ret (se_lst (k := true) (sa_cons (se_cty call_list_of (gc_list (k := false)) (ev.free "list") (sa_cons (se_sl (k := false) (se_var (pv 0)) sp_none (sp_some se_int)) sa_nil)) (sa_cons se_int (sa_cons se_int (sa_cons (se_var (pv 1)) (sa_cons se_int sa_nil))))))))))
theorem ok__law_bag (ev : Ev K mg base) : Fn P w K mg base "_law_bag" 1 1 f__law_bag := by
  obtain ⟨fd, F⟩ := ev.says.def_ D__law_bag rfl
  exact ⟨⟨fd, ["_law_script"], fk__law_bag ev F, (F.bindsN fun _ _ _ _ _ _ us hl => match us, hl with | [_], _ => rfl)⟩, ev.glo "_law_bag", F.kp, chk_len⟩
abbrev N__law_draw : List Str := ["_law_bag_here", "_law_limit", "_law_item", "_law_digit"]
abbrev st__law_draw : Stmt := top 61
theorem sc__law_draw : FnScope N__law_draw ["_law_bag_here", "_law_limit"] (defScope st__law_draw) := ⟨rfl, rfl, rfl, by decide +kernel, rfl, by decide +kernel, by decide +kernel⟩
def m__law_draw : Sm := (sSeq (sSetIx (eBin addD (eBin ixD (eVar 0) (eC (.int 4))) (eC (.int 1))) (eVar 0) (eC (.int 4))) (sSeq (sIf (tAnd (tOf (eBin eqD (eBin ixD (eVar 0) (eC (.int 2))) (eC (.int 0)))) (tOf (eBin ltI (eBin ixD (eVar 0) (eC (.int 1))) (eCB lenD (aCons (eBin ixD (eVar 0) (eC (.int 0))) aNil))))) (sSeq (sSet 2 (eBin ixD (eBin ixD (eVar 0) (eC (.int 0))) (eBin ixD (eVar 0) (eC (.int 1))))) (sSeq (sSetIx (eBin addD (eBin ixD (eVar 0) (eC (.int 1))) (eC (.int 1))) (eVar 0) (eC (.int 1))) (sIf (tOf (eBin geI (eVar 2) (eBin powI (eC (.int 10)) (eC (.int 18))))) (sSetIx (eVar 2) (eVar 0) (eC (.int 2))) (sSetIx (eBin modI (eCB intD (aCons (eBin addD (eBin addD (eBin mulI (eBin ixD (eVar 0) (eC (.int 3))) (eC (.int 69621))) (eBin mulI (eBin modI (eCB intD (aCons (eVar 2) aNil)) (eC (.int 2147483549))) (eC (.int 30103)))) (eC (.int 89))) aNil)) (eC (.int 2147483629))) (eVar 0) (eC (.int 3)))))) sNil) (sSeq (sIf (tOf (eBin gtI (eBin ixD (eVar 0) (eC (.int 2))) (eC (.int 0)))) (sSeq (sSet 3 (eBin modI (eCB intD (aCons (eBin ixD (eVar 0) (eC (.int 2))) aNil)) (eVar 1))) (sSeq (sSetIx (eBin fdivI (eBin ixD (eVar 0) (eC (.int 2))) (eVar 1)) (eVar 0) (eC (.int 2))) (sRet (eVar 3)))) sNil) (sSeq (sSetIx (eBin modI (eCB intD (aCons (eBin addD (eBin addD (eBin powI (eBin ixD (eVar 0) (eC (.int 3))) (eC (.int 3))) (eBin mulI (eBin ixD (eVar 0) (eC (.int 4))) (eC (.int 1299709)))) (eC (.int 60013))) aNil)) (eC (.int 2147483629))) (eVar 0) (eC (.int 3))) (sRet (eBin modI (eCB intD (aCons (eBin addD (eBin fdivI (eBin ixD (eVar 0) (eC (.int 3))) (eC (.int 97))) (eBin mulI (eBin modI (eCB intD (aCons (eBin ixD (eVar 0) (eC (.int 3))) aNil)) (eC (.int 7901))) (eC (.int 67)))) aNil)) (eVar 1)))))))
def f__law_draw : List D → Sto → Res D := chk 2 (runDef 4 m__law_draw)
theorem fk__law_draw (ev : Ev K mg base) {fd : FuncData} (F : FunD K "_law_draw" "_law_draw" (defArgs st__law_draw) (defBody st__law_draw) (defScope st__law_draw) [] [] (He.ga K "_law_draw") fd) : FnOk P w K mg base (CXp P w) 1 (He.ga K "_law_draw") fd ["_law_bag_here", "_law_limit"] (spM K 2 f__law_draw) := by
  have h : spM K 2 f__law_draw = spM K 2 (runDef 4 m__law_draw) := runDef_chk
  rw [h]
  exact fn_sim (N := N__law_draw) F sc__law_draw fun cdv A outer s H E hr => (sss_cons (ss_setix (se_add (se_ix (se_var (pv 0)) se_int) se_int) (se_var (pv 0)) se_int) (sss_cons (ss_if (st_sw (sw_and (st_eq hr (se_ix (se_var (pv 0)) se_int) se_int) (sw_and1 (st_lt (se_ix (se_var (pv 0)) se_int) (se_cb call_len gc_len (ev.free "len") (sa_cons (se_ix (se_var (pv 0)) se_int) sa_nil)))))) (sss_cons (ss_set sc__law_draw.nd (i := 2) rfl (by first | exact Or.inl rfl | exact Or.inr rfl) (se_ix (se_ix (se_var (pv 0)) se_int) (se_ix (se_var (pv 0)) se_int))) (sss_cons (ss_setix (se_add (se_ix (se_var (pv 0)) se_int) se_int) (se_var (pv 0)) se_int) (sss_one (ss_if (st_ge (se_var (pv 2)) (se_pow se_int se_int)) (sss_one (ss_setix (se_var (pv 2)) (se_var (pv 0)) se_int)) (sss_one (ss_setix (se_mod (se_cty call_int1 gc_int (ev.free "int") (sa_cons (se_add (se_add (se_mul (se_ix (se_var (pv 0)) se_int) se_int) (se_mul (se_mod (se_cty call_int1 gc_int (ev.free "int") (sa_cons (se_var (pv 2)) sa_nil)) se_int) se_int)) se_int) sa_nil)) se_int) (se_var (pv 0)) se_int)))))) sss_nil) (sss_cons (ss_if (st_gt (se_ix (se_var (pv 0)) se_int) se_int) (sss_cons (ss_set sc__law_draw.nd (i := 3) rfl (by first | exact Or.inl rfl | exact Or.inr rfl) (se_mod (se_cty call_int1 gc_int (ev.free "int") (sa_cons (se_ix (se_var (pv 0)) se_int) sa_nil)) (se_var (pv 1)))) (sss_cons (ss_setix (se_fdiv (se_ix (se_var (pv 0)) se_int) (se_var (pv 1))) (se_var (pv 0)) se_int) (sss_one (ss_ret (se_var (pv 3)))))) sss_nil) (sss_cons (ss_setix (se_mod (se_cty call_int1 gc_int (ev.free "int") (sa_cons (se_add (se_add (se_pow (se_ix (se_var (pv 0)) se_int) se_int) (se_mul (se_ix (se_var (pv 0)) se_int) se_int)) se_int) sa_nil)) se_int) (se_var (pv 0)) se_int) (sss_one (ss_ret (se_mod (se_cty call_int1 gc_int (ev.free "int") (sa_cons (se_add (se_fdiv (se_ix (se_var (pv 0)) se_int) se_int) (se_mul (se_mod (se_cty call_int1 gc_int (ev.free "int") (sa_cons (se_ix (se_var (pv 0)) se_int) sa_nil)) se_int) se_int)) sa_nil)) (se_var (pv 1)))))))))
theorem ok__law_draw (ev : Ev K mg base) : Fn P w K mg base "_law_draw" 1 2 f__law_draw := by
  obtain ⟨fd, F⟩ := ev.says.def_ D__law_draw rfl
  exact ⟨⟨fd, ["_law_bag_here", "_law_limit"], fk__law_draw ev F, (F.bindsN fun _ _ _ _ _ _ us hl => match us, hl with | [_, _], _ => rfl)⟩, ev.glo "_law_draw", F.kp, chk_len⟩
abbrev N__law_of : List Str := ["_law_bag_here", "_law_things"]
abbrev st__law_of : Stmt := top 62
theorem sc__law_of : FnScope N__law_of ["_law_bag_here", "_law_things"] (defScope st__law_of) := ⟨rfl, rfl, rfl, by decide +kernel, rfl, by decide +kernel, by decide +kernel⟩
def m__law_of : Sm := (sRet (eBin ixD (eVar 1) (eCall f__law_draw (aCons (eVar 0) (aCons (eCB lenD (aCons (eVar 1) aNil)) aNil)) [])))
def f__law_of : List D → Sto → Res D := chk 2 (runDef 2 m__law_of)
theorem fk__law_of (ev : Ev K mg base) {fd : FuncData} (F : FunD K "_law_of" "_law_of" (defArgs st__law_of) (defBody st__law_of) (defScope st__law_of) [] [] (He.ga K "_law_of") fd) : FnOk P w K mg base (CXp P w) 2 (He.ga K "_law_of") fd ["_law_bag_here", "_law_things"] (spM K 2 f__law_of) := by
  have h : spM K 2 f__law_of = spM K 2 (runDef 2 m__law_of) := runDef_chk
  rw [h]
  exact fn_sim (N := N__law_of) F sc__law_of fun cdv A outer s H E hr => (sss_one (ss_ret (se_ix (se_var (pv 1)) (se_fn (ok__law_draw ev) hr (by omega) cx_takes (sa_cons (se_var (pv 0)) (sa_cons (se_cb call_len gc_len (ev.free "len") (sa_cons (se_var (pv 1)) sa_nil)) sa_nil))))))
theorem ok__law_of (ev : Ev K mg base) : Fn P w K mg base "_law_of" 2 2 f__law_of := by
  obtain ⟨fd, F⟩ := ev.says.def_ D__law_of rfl
  exact ⟨⟨fd, ["_law_bag_here", "_law_things"], fk__law_of ev F, (F.bindsN fun _ _ _ _ _ _ us hl => match us, hl with | [_, _], _ => rfl)⟩, ev.glo "_law_of", F.kp, chk_len⟩
abbrev N__law_like : List Str := ["_law_told", "_law_due", "_law_a", "_law_b"]
abbrev st__law_like : Stmt := top 63
theorem sc__law_like : FnScope N__law_like ["_law_told", "_law_due"] (defScope st__law_like) := ⟨rfl, rfl, rfl, by decide +kernel, rfl, by decide +kernel, by decide +kernel⟩
def m__law_like : Nat → Sm
  | 0 => mBad
  | n + 1 => (sSeq (sIf (tOf (eUn (isiD (isB2 "list" "tuple" clsL)) (eVar 1))) (sSeq (sIf (tOr (tOf (eBin neD (eUn (isiD (isB "list" clsL)) (eVar 0)) (eUn (isiD (isB "list" clsL)) (eVar 1)))) (tOf (eBin neD (eUn (isiD (isB "tuple" clsL)) (eVar 0)) (eUn (isiD (isB "tuple" clsL)) (eVar 1))))) (sRet (eC (.bl false))) sNil) (sRet (eAnd (eBin eqD (eCB lenD (aCons (eVar 0) aNil)) (eCB lenD (aCons (eVar 1) aNil))) (eCB allD (aCons (eComp false [2, 3] (iZipM (aCons (eVar 0) (aCons (eVar 1) aNil))) (gT 2 (gsCons (gN 2) (gsCons (gN 3) gsNil))) tTrue (eCall (chk 2 (runDef 4 (m__law_like n))) (aCons (eVar 2) (aCons (eVar 3) aNil)) [])) aNil))))) sNil) (sSeq (sIf (tOr (tOf (eBin isN (eVar 1) (eC .non))) (tOf (eBin isN (eVar 0) (eC .non)))) (sRet (eAnd (eBin isN (eVar 1) (eC .non)) (eBin isN (eVar 0) (eC .non)))) sNil) (sSeq (sIf (tOr (tOf (eUn (isiD (isB2 "list" "tuple" clsL)) (eVar 0))) (tOf (eBin neD (eUn (isiD (isB "bool" clsL)) (eVar 0)) (eUn (isiD (isB "bool" clsL)) (eVar 1))))) (sRet (eC (.bl false))) sNil) (sSeq (sIf (tOr (tOf (eBin neD (eUn (isiD (isB "str" clsL)) (eVar 0)) (eUn (isiD (isB "str" clsL)) (eVar 1)))) (tOf (eBin neD (eUn (isiD (isB "int" clsL)) (eVar 0)) (eUn (isiD (isB "int" clsL)) (eVar 1))))) (sRet (eC (.bl false))) sNil) (sRet (eBin eqD (eVar 0) (eVar 1)))))))
def f__law_like (n : Nat) : List D → Sto → Res D := chk 2 (runDef 4 (m__law_like n))
theorem ok__law_like (ev : Ev K mg base) (n : Nat) : Fn P w K mg base "_law_like" (1 + n) 2 (f__law_like n) := by
  induction n with
  | zero =>
    obtain ⟨fd, F⟩ := ev.says.def_ D__law_like rfl
    refine fn_name (k := 0) (m := mBad) (x := "_law_like") (N := N__law_like) (ps := ["_law_told", "_law_due"]) F sc__law_like (ev.glo "_law_like") (F.bindsN fun _ _ _ _ _ _ us hl => match us, hl with | [_, _], _ => rfl) fun cdv A outer s H E hr => ?_
    exact sss_bad ⟨_, pss_bad⟩
  | succ n IH =>
    obtain ⟨fd, F⟩ := ev.says.def_ D__law_like rfl
    refine fn_name (k := 1 + n) (x := "_law_like") (N := N__law_like) (ps := ["_law_told", "_law_due"]) F sc__law_like (ev.glo "_law_like") (F.bindsN fun _ _ _ _ _ _ us hl => match us, hl with | [_, _], _ => rfl) fun cdv A outer s H E hr => ?_
    exact (sss_cons (ss_if (st_val (se_isi2 (ev.free "isinstance") (se_var (pv 1)) (cls_ty (ev.free "list")) (cls_ty (ev.free "tuple")) (isB2_ok (by decide) (by decide) (ev.nocs (by decide)) (ev.nocs (by decide))))) (sss_cons (ss_if (st_sw (sw_or (st_ne hr (se_isi (ev.free "isinstance") (se_var (pv 0)) (cls_ty (ev.free "list")) (isB_ok (by decide) (ev.nocs (by decide)))) (se_isi (ev.free "isinstance") (se_var (pv 1)) (cls_ty (ev.free "list")) (isB_ok (by decide) (ev.nocs (by decide))))) (sw_or1 (st_ne hr (se_isi (ev.free "isinstance") (se_var (pv 0)) (cls_ty (ev.free "tuple")) (isB_ok (by decide) (ev.nocs (by decide)))) (se_isi (ev.free "isinstance") (se_var (pv 1)) (cls_ty (ev.free "tuple")) (isB_ok (by decide) (ev.nocs (by decide)))))))) (sss_one (ss_ret se_bl)) sss_nil) (sss_one (ss_ret (se_and (se_eq hr (se_cb call_len gc_len (ev.free "len") (sa_cons (se_var (pv 0)) sa_nil)) (se_cb call_len gc_len (ev.free "len") (sa_cons (se_var (pv 1)) sa_nil))) (se_one (se_cb (cr_all rfl) gc_all (ev.free "all") (sa_cons (se_comp (k := false) (own := [("_law_a", 2), ("_law_b", 3)]) rfl sc__law_like.nd (si_zip (ev.free "zip") (sa_cons (se_var (pv 0)) (sa_cons (se_var (pv 1)) sa_nil))) (blkOk_by (N := N__law_like) (sc := defScope st__law_like) (own := [("_law_a", 2), ("_law_b", 3)]) (by decide +kernel)) (fun _ _ _ _ _ => (pg_tup rfl (pgs_cons (pg_name (i := 2) sc__law_like.nd rfl (Or.inl rfl)) (pgs_cons (pg_name (i := 3) sc__law_like.nd rfl (Or.inl rfl)) pgs_nil)))) (grel_tup (grels_cons (grel_name (i := 2) (by decide)) (grels_cons (grel_name (i := 3) (by decide)) grels_nil))) (fun _ _ _ _ _ => (se_fn IH hr (by omega) takes0 (sa_cons (se_var (pv 2)) (sa_cons (se_var (pv 3)) sa_nil))))) sa_nil))))))) sss_nil) (sss_cons (ss_if (st_sw (sw_or (st_isN (se_var (pv 1)) se_non) (sw_or1 (st_isN (se_var (pv 0)) se_non)))) (sss_one (ss_ret (se_and (se_isN (se_var (pv 1)) se_non) (se_one (se_isN (se_var (pv 0)) se_non))))) sss_nil) (sss_cons (ss_if (st_sw (sw_or (st_val (se_isi2 (ev.free "isinstance") (se_var (pv 0)) (cls_ty (ev.free "list")) (cls_ty (ev.free "tuple")) (isB2_ok (by decide) (by decide) (ev.nocs (by decide)) (ev.nocs (by decide))))) (sw_or1 (st_ne hr (se_isi (ev.free "isinstance") (se_var (pv 0)) (cls_ty (ev.free "bool")) (isB_ok (by decide) (ev.nocs (by decide)))) (se_isi (ev.free "isinstance") (se_var (pv 1)) (cls_ty (ev.free "bool")) (isB_ok (by decide) (ev.nocs (by decide)))))))) (sss_one (ss_ret se_bl)) sss_nil) (sss_cons (ss_if (st_sw (sw_or (st_ne hr (se_isi (ev.free "isinstance") (se_var (pv 0)) (cls_ty (ev.free "str")) (isB_ok (by decide) (ev.nocs (by decide)))) (se_isi (ev.free "isinstance") (se_var (pv 1)) (cls_ty (ev.free "str")) (isB_ok (by decide) (ev.nocs (by decide))))) (sw_or1 (st_ne hr (se_isi (ev.free "isinstance") (se_var (pv 0)) (cls_ty (ev.free "int")) (isB_ok (by decide) (ev.nocs (by decide)))) (se_isi (ev.free "isinstance") (se_var (pv 1)) (cls_ty (ev.free "int")) (isB_ok (by decide) (ev.nocs (by decide)))))))) (sss_one (ss_ret se_bl)) sss_nil) (sss_one (ss_ret (se_eq hr (se_var (pv 0)) (se_var (pv 1)))))))))
abbrev N__law_low : List Str := ["_law_p", "_law_q", "_law_a", "_law_b"]
abbrev st__law_low : Stmt := top 64
theorem sc__law_low : FnScope N__law_low ["_law_p", "_law_q"] (defScope st__law_low) := ⟨rfl, rfl, rfl, by decide +kernel, rfl, by decide +kernel, by decide +kernel⟩
def m__law_low : Sm := (sSeq (sPar 2 3 (eCB absD (aCons (eVar 0) aNil)) (eCB absD (aCons (eVar 1) aNil))) (sSeq (sWhile w__law_low_401 (tOf (eBin gtI (eVar 3) (eC (.int 0)))) (sPar 2 3 (eVar 3) (eBin modI (eCB intD (aCons (eVar 2) aNil)) (eVar 3)))) (sSeq (sIf (tOf (eBin ltI (eVar 1) (eC (.int 0)))) (sSet 2 (eUn negI (eVar 2))) sNil) (sRet (eTup (aCons (eBin fdivI (eVar 0) (eVar 2)) (aCons (eBin fdivI (eVar 1) (eVar 2)) aNil)))))))
def f__law_low : List D → Sto → Res D := chk 2 (runDef 4 m__law_low)
theorem fk__law_low (ev : Ev K mg base) {fd : FuncData} (F : FunD K "_law_low" "_law_low" (defArgs st__law_low) (defBody st__law_low) (defScope st__law_low) [] [] (He.ga K "_law_low") fd) : FnOk P w K mg base (CXp P w) 1 (He.ga K "_law_low") fd ["_law_p", "_law_q"] (spM K 2 f__law_low) := by
  have h : spM K 2 f__law_low = spM K 2 (runDef 4 m__law_low) := runDef_chk
  rw [h]
  exact fn_sim (N := N__law_low) F sc__law_low fun cdv A outer s H E hr => (sss_cons (ss_par (i := 2) (j := 3) rfl sc__law_low.nd rfl rfl (by decide) rfl rfl (se_cb call_abs gc_abs (ev.free "abs") (sa_cons (se_var (pv 0)) sa_nil)) (se_cb call_abs gc_abs (ev.free "abs") (sa_cons (se_var (pv 1)) sa_nil)) (by rfl)) (sss_cons (ss_while cx_own (st_gt (se_var (pv 3)) se_int) (sss_one (ss_par (i := 2) (j := 3) rfl sc__law_low.nd rfl rfl (by decide) rfl rfl (se_var (pv 3)) (se_mod (se_cty call_int1 gc_int (ev.free "int") (sa_cons (se_var (pv 2)) sa_nil)) (se_var (pv 3))) (by rfl)))) (sss_cons (ss_if (st_lt (se_var (pv 1)) se_int) (sss_one (ss_set sc__law_low.nd (i := 2) rfl (by first | exact Or.inl rfl | exact Or.inr rfl) (se_neg (se_var (pv 2))))) sss_nil) (sss_one (ss_ret (se_tup (sa_cons (se_fdiv (se_var (pv 0)) (se_var (pv 2))) (sa_cons (se_fdiv (se_var (pv 1)) (se_var (pv 2))) sa_nil))))))))
theorem ok__law_low (ev : Ev K mg base) : Fn P w K mg base "_law_low" 1 2 f__law_low := by
  obtain ⟨fd, F⟩ := ev.says.def_ D__law_low rfl
  exact ⟨⟨fd, ["_law_p", "_law_q"], fk__law_low ev F, (F.bindsN fun _ _ _ _ _ _ us hl => match us, hl with | [_, _], _ => rfl)⟩, ev.glo "_law_low", F.kp, chk_len⟩
abbrev N__law_add : List Str := ["_law_a", "_law_b"]
abbrev st__law_add : Stmt := top 65
theorem sc__law_add : FnScope N__law_add ["_law_a", "_law_b"] (defScope st__law_add) := ⟨rfl, rfl, rfl, by decide +kernel, rfl, by decide +kernel, by decide +kernel⟩
def m__law_add : Sm := (sSeq (sIf (tAnd (tOf (eBin eqD (eBin ixD (eVar 0) (eC (.int 1))) (eC (.int 1)))) (tOf (eBin eqD (eBin ixD (eVar 1) (eC (.int 1))) (eC (.int 1))))) (sRet (eTup (aCons (eBin addD (eBin ixD (eVar 0) (eC (.int 0))) (eBin ixD (eVar 1) (eC (.int 0)))) (aCons (eC (.int 1)) aNil)))) sNil) (sRet (eCall f__law_low (aCons (eBin addD (eBin mulI (eBin ixD (eVar 0) (eC (.int 0))) (eBin ixD (eVar 1) (eC (.int 1)))) (eBin mulI (eBin ixD (eVar 1) (eC (.int 0))) (eBin ixD (eVar 0) (eC (.int 1))))) (aCons (eBin mulI (eBin ixD (eVar 0) (eC (.int 1))) (eBin ixD (eVar 1) (eC (.int 1)))) aNil)) [])))
def f__law_add : List D → Sto → Res D := chk 2 (runDef 2 m__law_add)
theorem fk__law_add (ev : Ev K mg base) {fd : FuncData} (F : FunD K "_law_add" "_law_add" (defArgs st__law_add) (defBody st__law_add) (defScope st__law_add) [] [] (He.ga K "_law_add") fd) : FnOk P w K mg base (CXp P w) 2 (He.ga K "_law_add") fd ["_law_a", "_law_b"] (spM K 2 f__law_add) := by
  have h : spM K 2 f__law_add = spM K 2 (runDef 2 m__law_add) := runDef_chk
  rw [h]
  exact fn_sim (N := N__law_add) F sc__law_add fun cdv A outer s H E hr => (sss_cons (ss_if (st_sw (sw_and (st_eq hr (se_ix (se_var (pv 0)) se_int) se_int) (sw_and1 (st_eq hr (se_ix (se_var (pv 1)) se_int) se_int)))) (sss_one (ss_ret (se_tup (sa_cons (se_add (se_ix (se_var (pv 0)) se_int) (se_ix (se_var (pv 1)) se_int)) (sa_cons se_int sa_nil))))) sss_nil) (sss_one (ss_ret (se_fn (ok__law_low ev) hr (by omega) cx_takes (sa_cons (se_add (se_mul (se_ix (se_var (pv 0)) se_int) (se_ix (se_var (pv 1)) se_int)) (se_mul (se_ix (se_var (pv 1)) se_int) (se_ix (se_var (pv 0)) se_int))) (sa_cons (se_mul (se_ix (se_var (pv 0)) se_int) (se_ix (se_var (pv 1)) se_int)) sa_nil))))))
theorem ok__law_add (ev : Ev K mg base) : Fn P w K mg base "_law_add" 2 2 f__law_add := by
  obtain ⟨fd, F⟩ := ev.says.def_ D__law_add rfl
  exact ⟨⟨fd, ["_law_a", "_law_b"], fk__law_add ev F, (F.bindsN fun _ _ _ _ _ _ us hl => match us, hl with | [_, _], _ => rfl)⟩, ev.glo "_law_add", F.kp, chk_len⟩
abbrev N__law_mul : List Str := ["_law_a", "_law_b"]
abbrev st__law_mul : Stmt := top 66
theorem sc__law_mul : FnScope N__law_mul ["_law_a", "_law_b"] (defScope st__law_mul) := ⟨rfl, rfl, rfl, by decide +kernel, rfl, by decide +kernel, by decide +kernel⟩
def m__law_mul : Sm := (sSeq (sIf (tAnd (tOf (eBin eqD (eBin ixD (eVar 0) (eC (.int 1))) (eC (.int 1)))) (tOf (eBin eqD (eBin ixD (eVar 1) (eC (.int 1))) (eC (.int 1))))) (sRet (eTup (aCons (eBin mulI (eBin ixD (eVar 0) (eC (.int 0))) (eBin ixD (eVar 1) (eC (.int 0)))) (aCons (eC (.int 1)) aNil)))) sNil) (sRet (eCall f__law_low (aCons (eBin mulI (eBin ixD (eVar 0) (eC (.int 0))) (eBin ixD (eVar 1) (eC (.int 0)))) (aCons (eBin mulI (eBin ixD (eVar 0) (eC (.int 1))) (eBin ixD (eVar 1) (eC (.int 1)))) aNil)) [])))
def f__law_mul : List D → Sto → Res D := chk 2 (runDef 2 m__law_mul)
theorem fk__law_mul (ev : Ev K mg base) {fd : FuncData} (F : FunD K "_law_mul" "_law_mul" (defArgs st__law_mul) (defBody st__law_mul) (defScope st__law_mul) [] [] (He.ga K "_law_mul") fd) : FnOk P w K mg base (CXp P w) 2 (He.ga K "_law_mul") fd ["_law_a", "_law_b"] (spM K 2 f__law_mul) := by
  have h : spM K 2 f__law_mul = spM K 2 (runDef 2 m__law_mul) := runDef_chk
  rw [h]
  exact fn_sim (N := N__law_mul) F sc__law_mul fun cdv A outer s H E hr => (sss_cons (ss_if (st_sw (sw_and (st_eq hr (se_ix (se_var (pv 0)) se_int) se_int) (sw_and1 (st_eq hr (se_ix (se_var (pv 1)) se_int) se_int)))) (sss_one (ss_ret (se_tup (sa_cons (se_mul (se_ix (se_var (pv 0)) se_int) (se_ix (se_var (pv 1)) se_int)) (sa_cons se_int sa_nil))))) sss_nil) (sss_one (ss_ret (se_fn (ok__law_low ev) hr (by omega) cx_takes (sa_cons (se_mul (se_ix (se_var (pv 0)) se_int) (se_ix (se_var (pv 1)) se_int)) (sa_cons (se_mul (se_ix (se_var (pv 0)) se_int) (se_ix (se_var (pv 1)) se_int)) sa_nil))))))
theorem ok__law_mul (ev : Ev K mg base) : Fn P w K mg base "_law_mul" 2 2 f__law_mul := by
  obtain ⟨fd, F⟩ := ev.says.def_ D__law_mul rfl
  exact ⟨⟨fd, ["_law_a", "_law_b"], fk__law_mul ev F, (F.bindsN fun _ _ _ _ _ _ us hl => match us, hl with | [_, _], _ => rfl)⟩, ev.glo "_law_mul", F.kp, chk_len⟩
abbrev N__law_times : List Str := ["_law_u", "_law_w", "_law_some", "_law_k", "_law_total", "_law_j"]
abbrev st__law_times : Stmt := top 67
theorem sc__law_times : FnScope N__law_times ["_law_u", "_law_w"] (defScope st__law_times) := ⟨rfl, rfl, rfl, by decide +kernel, rfl, by decide +kernel, by decide +kernel⟩
def m__law_times : Sm := (sSeq (sSet 2 (eLst true aNil)) (sSeq (sFor (iRange1 (aCons (eCB lenD (aCons (eVar 0) aNil)) aNil)) (gN 3) (sSeq (sSet 4 (eTup (aCons (eC (.int 0)) (aCons (eC (.int 1)) aNil)))) (sSeq (sFor (iRange1 (aCons (eBin addD (eVar 3) (eC (.int 1))) aNil)) (gN 5) (sIf (tAnd (tOf (eBin neD (eBin ixD (eBin ixD (eVar 0) (eVar 5)) (eC (.int 0))) (eC (.int 0)))) (tOf (eBin neD (eBin ixD (eBin ixD (eVar 1) (eBin subI (eVar 3) (eVar 5))) (eC (.int 0))) (eC (.int 0))))) (sSet 4 (eCall f__law_add (aCons (eVar 4) (aCons (eCall f__law_mul (aCons (eBin ixD (eVar 0) (eVar 5)) (aCons (eBin ixD (eVar 1) (eBin subI (eVar 3) (eVar 5))) aNil)) []) aNil)) [])) sNil)) (sExpr (eBM "list" (mutD fAppend) (eVar 2) (aCons (eVar 4) aNil)))))) (sRet (eFrz (eVar 2)))))
def f__law_times : List D → Sto → Res D := chk 2 (runDef 6 m__law_times)
theorem fk__law_times (ev : Ev K mg base) {fd : FuncData} (F : FunD K "_law_times" "_law_times" (defArgs st__law_times) (defBody st__law_times) (defScope st__law_times) [] [] (He.ga K "_law_times") fd) : FnOk P w K mg base (CXp P w) 3 (He.ga K "_law_times") fd ["_law_u", "_law_w"] (spM K 2 f__law_times) := by
  have h : spM K 2 f__law_times = spM K 2 (runDef 6 m__law_times) := runDef_chk
  rw [h]
  exact fn_sim (N := N__law_times) F sc__law_times fun cdv A outer s H E hr => (sss_cons (ss_set sc__law_times.nd (i := 2) rfl (by first | exact Or.inl rfl | exact Or.inr rfl) (se_lst (k := true) sa_nil)) (sss_cons (ss_for cx_own rfl (si_range1 (ev.free "range") (sa_cons (se_cb call_len gc_len (ev.free "len") (sa_cons (se_var (pv 0)) sa_nil)) sa_nil)) (sg_name (i := 3) sc__law_times.nd rfl (by first | exact Or.inl rfl | exact Or.inr rfl)) (sss_cons (ss_set sc__law_times.nd (i := 4) rfl (by first | exact Or.inl rfl | exact Or.inr rfl) (se_tup (sa_cons se_int (sa_cons se_int sa_nil)))) (sss_cons (ss_for cx_own rfl (si_range1 (ev.free "range") (sa_cons (se_add (se_var (pv 3)) se_int) sa_nil)) (sg_name (i := 5) sc__law_times.nd rfl (by first | exact Or.inl rfl | exact Or.inr rfl)) (sss_one (ss_if (st_sw (sw_and (st_ne hr (se_ix (se_ix (se_var (pv 0)) (se_var (pv 5))) se_int) se_int) (sw_and1 (st_ne hr (se_ix (se_ix (se_var (pv 1)) (se_sub (se_var (pv 3)) (se_var (pv 5)))) se_int) se_int)))) (sss_one (ss_set sc__law_times.nd (i := 4) rfl (by first | exact Or.inl rfl | exact Or.inr rfl) (se_fn (ok__law_add ev) hr (by omega) cx_takes (sa_cons (se_var (pv 4)) (sa_cons (se_fn (ok__law_mul ev) hr (by omega) cx_takes (sa_cons (se_ix (se_var (pv 0)) (se_var (pv 5))) (sa_cons (se_ix (se_var (pv 1)) (se_sub (se_var (pv 3)) (se_var (pv 5)))) sa_nil))) sa_nil))))) sss_nil))) (sss_one (ss_expr (se_bm PySem.F.plainAttrs_list PySem.F.slot_list_append PySem.F.type_list_append mt_append gmt_append (se_var (pv 2)) (sa_cons (se_var (pv 4)) sa_nil))))))) (sss_one (ss_ret (se_frz (se_var (pv 2)))))))
theorem ok__law_times (ev : Ev K mg base) : Fn P w K mg base "_law_times" 3 2 f__law_times := by
  obtain ⟨fd, F⟩ := ev.says.def_ D__law_times rfl
  exact ⟨⟨fd, ["_law_u", "_law_w"], fk__law_times ev F, (F.bindsN fun _ _ _ _ _ _ us hl => match us, hl with | [_, _], _ => rfl)⟩, ev.glo "_law_times", F.kp, chk_len⟩
abbrev N__law_number : List Str := ["_law_bag_here", "_law_pick", "_law_p"]
abbrev st__law_number : Stmt := top 68
theorem sc__law_number : FnScope N__law_number ["_law_bag_here"] (defScope st__law_number) := ⟨rfl, rfl, rfl, by decide +kernel, rfl, by decide +kernel, by decide +kernel⟩
def m__law_number : Sm := (sSeq (sSet 1 (eCall f__law_draw (aCons (eVar 0) (aCons (eC (.int 18)) aNil)) [])) (sSeq (sIf (tOf (eBin ltI (eVar 1) (eC (.int 6)))) (sRet (eTup (aCons (eC (.int 0)) (aCons (eC (.int 1)) aNil)))) sNil) (sSeq (sIf (tOf (eBin ltI (eVar 1) (eC (.int 8)))) (sRet (eTup (aCons (eC (.int 1)) (aCons (eC (.int 1)) aNil)))) sNil) (sSeq (sSet 2 (eBin addD (eC (.int 1)) (eCall f__law_draw (aCons (eVar 0) (aCons (eC (.int 9)) aNil)) []))) (sSeq (sIf (tOf (eBin eqD (eVar 1) (eC (.int 17)))) (sSet 2 (eBin addD (eVar 2) (eCall f__law_draw (aCons (eVar 0) (aCons (eCall f__law_of (aCons (eVar 0) (aCons (eLst false (aCons (eC (.int 100)) (aCons (eC (.int 10000)) (aCons (eC (.int 1000000)) aNil)))) aNil)) []) aNil)) []))) sNil) (sSeq (sIf (tOf (eBin eqD (eCall f__law_draw (aCons (eVar 0) (aCons (eC (.int 2)) aNil)) []) (eC (.int 1)))) (sSet 2 (eUn negI (eVar 2))) sNil) (sRet (eCall f__law_low (aCons (eVar 2) (aCons (eCall f__law_of (aCons (eVar 0) (aCons (eLst false (aCons (eC (.int 1)) (aCons (eC (.int 1)) (aCons (eC (.int 2)) (aCons (eC (.int 1)) (aCons (eC (.int 3)) (aCons (eC (.int 1)) aNil))))))) aNil)) []) aNil)) []))))))))
def f__law_number : List D → Sto → Res D := chk 1 (runDef 3 m__law_number)
theorem fk__law_number (ev : Ev K mg base) {fd : FuncData} (F : FunD K "_law_number" "_law_number" (defArgs st__law_number) (defBody st__law_number) (defScope st__law_number) [] [] (He.ga K "_law_number") fd) : FnOk P w K mg base (CXp P w) 3 (He.ga K "_law_number") fd ["_law_bag_here"] (spM K 1 f__law_number) := by
  have h : spM K 1 f__law_number = spM K 1 (runDef 3 m__law_number) := runDef_chk
  rw [h]
  exact fn_sim (N := N__law_number) F sc__law_number fun cdv A outer s H E hr => (sss_cons (ss_set sc__law_number.nd (i := 1) rfl (by first | exact Or.inl rfl | exact Or.inr rfl) (se_fn (ok__law_draw ev) hr (by omega) cx_takes (sa_cons (se_var (pv 0)) (sa_cons se_int sa_nil)))) (sss_cons (ss_if (st_lt (se_var (pv 1)) se_int) (sss_one (ss_ret (se_tup (sa_cons se_int (sa_cons se_int sa_nil))))) sss_nil) (sss_cons (ss_if (st_lt (se_var (pv 1)) se_int) (sss_one (ss_ret (se_tup (sa_cons se_int (sa_cons se_int sa_nil))))) sss_nil) (sss_cons (ss_set sc__law_number.nd (i := 2) rfl (by first | exact Or.inl rfl | exact Or.inr rfl) (se_add se_int (se_fn (ok__law_draw ev) hr (by omega) cx_takes (sa_cons (se_var (pv 0)) (sa_cons se_int sa_nil))))) (sss_cons (ss_if (st_eq hr (se_var (pv 1)) se_int) (sss_one (ss_set sc__law_number.nd (i := 2) rfl (by first | exact Or.inl rfl | exact Or.inr rfl) (se_add (se_var (pv 2)) (se_fn (ok__law_draw ev) hr (by omega) cx_takes (sa_cons (se_var (pv 0)) (sa_cons (se_fn (ok__law_of ev) hr (by omega) cx_takes (sa_cons (se_var (pv 0)) (sa_cons (se_lst (k := false) (sa_cons se_int (sa_cons se_int (sa_cons se_int sa_nil)))) sa_nil))) sa_nil)))))) sss_nil) (sss_cons (ss_if (st_eq hr (se_fn (ok__law_draw ev) hr (by omega) cx_takes (sa_cons (se_var (pv 0)) (sa_cons se_int sa_nil))) se_int) (sss_one (ss_set sc__law_number.nd (i := 2) rfl (by first | exact Or.inl rfl | exact Or.inr rfl) (se_neg (se_var (pv 2))))) sss_nil) (sss_one (ss_ret (se_fn (ok__law_low ev) hr (by omega) cx_takes (sa_cons (se_var (pv 2)) (sa_cons (se_fn (ok__law_of ev) hr (by omega) cx_takes (sa_cons (se_var (pv 0)) (sa_cons (se_lst (k := false) (sa_cons se_int (sa_cons se_int (sa_cons se_int (sa_cons se_int (sa_cons se_int (sa_cons se_int sa_nil))))))) sa_nil))) sa_nil)))))))))))
theorem ok__law_number (ev : Ev K mg base) : Fn P w K mg base "_law_number" 3 1 f__law_number := by
  obtain ⟨fd, F⟩ := ev.says.def_ D__law_number rfl
  exact ⟨⟨fd, ["_law_bag_here"], fk__law_number ev F, (F.bindsN fun _ _ _ _ _ _ us hl => match us, hl with | [_], _ => rfl)⟩, ev.glo "_law_number", F.kp, chk_len⟩
abbrev N__law_full : List Str := ["_law_bag_here", "_law_a"]
abbrev st__law_full : Stmt := top 69
theorem sc__law_full : FnScope N__law_full ["_law_bag_here"] (defScope st__law_full) := ⟨rfl, rfl, rfl, by decide +kernel, rfl, by decide +kernel, by decide +kernel⟩
def m__law_full : Sm := (sSeq (sSet 1 (eCall f__law_number (aCons (eVar 0) aNil) [])) (sRet (eIf (tOf (eBin neD (eBin ixD (eVar 1) (eC (.int 0))) (eC (.int 0)))) (eVar 1) (eCall f__law_of (aCons (eVar 0) (aCons (eLst false (aCons (eTup (aCons (eC (.int 1)) (aCons (eC (.int 1)) aNil))) (aCons (eTup (aCons (eUn negI (eC (.int 1))) (aCons (eC (.int 1)) aNil))) (aCons (eTup (aCons (eC (.int 1)) (aCons (eC (.int 2)) aNil))) (aCons (eTup (aCons (eUn negI (eC (.int 3))) (aCons (eC (.int 1)) aNil))) (aCons (eTup (aCons (eC (.int 2)) (aCons (eC (.int 1)) aNil))) aNil)))))) aNil)) []))))
def f__law_full : List D → Sto → Res D := chk 1 (runDef 2 m__law_full)
theorem fk__law_full (ev : Ev K mg base) {fd : FuncData} (F : FunD K "_law_full" "_law_full" (defArgs st__law_full) (defBody st__law_full) (defScope st__law_full) [] [] (He.ga K "_law_full") fd) : FnOk P w K mg base (CXp P w) 4 (He.ga K "_law_full") fd ["_law_bag_here"] (spM K 1 f__law_full) := by
  have h : spM K 1 f__law_full = spM K 1 (runDef 2 m__law_full) := runDef_chk
  rw [h]
  exact fn_sim (N := N__law_full) F sc__law_full fun cdv A outer s H E hr => (sss_cons (ss_set sc__law_full.nd (i := 1) rfl (by first | exact Or.inl rfl | exact Or.inr rfl) (se_fn (ok__law_number ev) hr (by omega) cx_takes (sa_cons (se_var (pv 0)) sa_nil))) (sss_one (ss_ret (se_if (st_ne hr (se_ix (se_var (pv 1)) se_int) se_int) (se_var (pv 1)) (se_fn (ok__law_of ev) hr (by omega) cx_takes (sa_cons (se_var (pv 0)) (sa_cons (se_lst (k := false) (sa_cons (se_tup (sa_cons se_int (sa_cons se_int sa_nil))) (sa_cons (se_tup (sa_cons (se_neg se_int) (sa_cons se_int sa_nil))) (sa_cons (se_tup (sa_cons se_int (sa_cons se_int sa_nil))) (sa_cons (se_tup (sa_cons (se_neg se_int) (sa_cons se_int sa_nil))) (sa_cons (se_tup (sa_cons se_int (sa_cons se_int sa_nil))) sa_nil)))))) sa_nil)))))))
theorem ok__law_full (ev : Ev K mg base) : Fn P w K mg base "_law_full" 4 1 f__law_full := by
  obtain ⟨fd, F⟩ := ev.says.def_ D__law_full rfl
  exact ⟨⟨fd, ["_law_bag_here"], fk__law_full ev F, (F.bindsN fun _ _ _ _ _ _ us hl => match us, hl with | [_], _ => rfl)⟩, ev.glo "_law_full", F.kp, chk_len⟩
abbrev N__law_spread : List Str := ["_law_bag_here", "_law_size", "_law_first", "_law_gap", "_law_some", "_law_k"]
abbrev st__law_spread : Stmt := top 70
theorem sc__law_spread : FnScope N__law_spread ["_law_bag_here", "_law_size", "_law_first"] (defScope st__law_spread) := ⟨rfl, rfl, rfl, by decide +kernel, rfl, by decide +kernel, by decide +kernel⟩
def m__law_spread : Sm := (sSeq (sSet 3 (eCall f__law_of (aCons (eVar 0) (aCons (eLst false (aCons (eC (.int 0)) (aCons (eC (.int 1)) (aCons (eC (.int 0)) (aCons (eC (.int 2)) (aCons (eC (.int 0)) (aCons (eC (.int 1)) (aCons (eC (.int 3)) aNil)))))))) aNil)) [])) (sSeq (sSet 4 (eBin (catL false) (eBin (catL false) (eLst false (aCons (eVar 2) aNil)) (eBin (repL false) (eLst false (aCons (eTup (aCons (eC (.int 0)) (aCons (eC (.int 1)) aNil))) aNil)) (eVar 3))) (eLst false (aCons (eCall f__law_full (aCons (eVar 0) aNil) []) aNil)))) (sRet (eSl false (eBin (catL false) (eVar 4) (eComp false [5] (iRange1 (aCons (eVar 1) aNil)) (gN 5) tTrue (eCall f__law_number (aCons (eVar 0) aNil) []))) pNone (pSome (eVar 1))))))
def f__law_spread : List D → Sto → Res D := chk 3 (runDef 6 m__law_spread)
theorem fk__law_spread (ev : Ev K mg base) {fd : FuncData} (F : FunD K "_law_spread" "_law_spread" (defArgs st__law_spread) (defBody st__law_spread) (defScope st__law_spread) [] [] (He.ga K "_law_spread") fd) : FnOk P w K mg base (CXp P w) 5 (He.ga K "_law_spread") fd ["_law_bag_here", "_law_size", "_law_first"] (spM K 3 f__law_spread) := by
  have h : spM K 3 f__law_spread = spM K 3 (runDef 6 m__law_spread) := runDef_chk
  rw [h]
  exact fn_sim (N := N__law_spread) F sc__law_spread fun cdv A outer s H E hr => (sss_cons (ss_set sc__law_spread.nd (i := 3) rfl (by first | exact Or.inl rfl | exact Or.inr rfl) (se_fn (ok__law_of ev) hr (by omega) cx_takes (sa_cons (se_var (pv 0)) (sa_cons (se_lst (k := false) (sa_cons se_int (sa_cons se_int (sa_cons se_int (sa_cons se_int (sa_cons se_int (sa_cons se_int (sa_cons se_int sa_nil)))))))) sa_nil)))) (sss_cons (ss_set sc__law_spread.nd (i := 4) rfl (by first | exact Or.inl rfl | exact Or.inr rfl) (se_cat (k := false) (se_cat (k := false) (se_lst (k := false) (sa_cons (se_var (pv 2)) sa_nil)) (se_rep (k := false) (se_lst (k := false) (sa_cons (se_tup (sa_cons se_int (sa_cons se_int sa_nil))) sa_nil)) (se_var (pv 3)))) (se_lst (k := false) (sa_cons (se_fn (ok__law_full ev) hr (by omega) cx_takes (sa_cons (se_var (pv 0)) sa_nil)) sa_nil)))) (sss_one (ss_ret (se_sl (k := false) (se_cat (k := false) (se_var (pv 4)) (se_comp (k := false) (own := [("_law_k", 5)]) rfl sc__law_spread.nd (si_range1 (ev.free "range") (sa_cons (se_var (pv 1)) sa_nil)) (blkOk_by (N := N__law_spread) (sc := defScope st__law_spread) (own := [("_law_k", 5)]) (by decide +kernel)) (fun _ _ _ _ _ => (pg_name (i := 5) sc__law_spread.nd rfl (Or.inl rfl))) (grel_name (i := 5) (by decide)) (fun _ _ _ _ _ => (se_fn (ok__law_number ev) hr (by omega) takes0 (sa_cons (se_var (pv 0)) sa_nil))))) sp_none (sp_some (se_var (pv 1))))))))
theorem ok__law_spread (ev : Ev K mg base) : Fn P w K mg base "_law_spread" 5 3 f__law_spread := by
  obtain ⟨fd, F⟩ := ev.says.def_ D__law_spread rfl
  exact ⟨⟨fd, ["_law_bag_here", "_law_size", "_law_first"], fk__law_spread ev F, (F.bindsN fun _ _ _ _ _ _ us hl => match us, hl with | [_, _, _], _ => rfl)⟩, ev.glo "_law_spread", F.kp, chk_len⟩
abbrev N__law_lead : List Str := ["_law_bag_here"]
abbrev st__law_lead : Stmt := top 71
theorem sc__law_lead : FnScope N__law_lead ["_law_bag_here"] (defScope st__law_lead) := ⟨rfl, rfl, rfl, by decide +kernel, rfl, by decide +kernel, by decide +kernel⟩
def m__law_lead : Sm := (sRet (eCall f__law_of (aCons (eVar 0) (aCons (eLst false (aCons (eTup (aCons (eC (.int 2)) (aCons (eC (.int 1)) aNil))) (aCons (eTup (aCons (eC (.int 1)) (aCons (eC (.int 2)) aNil))) (aCons (eTup (aCons (eUn negI (eC (.int 1))) (aCons (eC (.int 2)) aNil))) (aCons (eTup (aCons (eC (.int 3)) (aCons (eC (.int 1)) aNil))) (aCons (eTup (aCons (eUn negI (eC (.int 2))) (aCons (eC (.int 1)) aNil))) (aCons (eTup (aCons (eC (.int 1)) (aCons (eC (.int 3)) aNil))) (aCons (eTup (aCons (eC (.int 3)) (aCons (eC (.int 2)) aNil))) aNil)))))))) aNil)) []))
def f__law_lead : List D → Sto → Res D := chk 1 (runDef 1 m__law_lead)
theorem fk__law_lead (ev : Ev K mg base) {fd : FuncData} (F : FunD K "_law_lead" "_law_lead" (defArgs st__law_lead) (defBody st__law_lead) (defScope st__law_lead) [] [] (He.ga K "_law_lead") fd) : FnOk P w K mg base (CXp P w) 3 (He.ga K "_law_lead") fd ["_law_bag_here"] (spM K 1 f__law_lead) := by
  have h : spM K 1 f__law_lead = spM K 1 (runDef 1 m__law_lead) := runDef_chk
  rw [h]
  exact fn_sim (N := N__law_lead) F sc__law_lead fun cdv A outer s H E hr => (sss_one (ss_ret (se_fn (ok__law_of ev) hr (by omega) cx_takes (sa_cons (se_var (pv 0)) (sa_cons (se_lst (k := false) (sa_cons (se_tup (sa_cons se_int (sa_cons se_int sa_nil))) (sa_cons (se_tup (sa_cons se_int (sa_cons se_int sa_nil))) (sa_cons (se_tup (sa_cons (se_neg se_int) (sa_cons se_int sa_nil))) (sa_cons (se_tup (sa_cons se_int (sa_cons se_int sa_nil))) (sa_cons (se_tup (sa_cons (se_neg se_int) (sa_cons se_int sa_nil))) (sa_cons (se_tup (sa_cons se_int (sa_cons se_int sa_nil))) (sa_cons (se_tup (sa_cons se_int (sa_cons se_int sa_nil))) sa_nil)))))))) sa_nil)))))
theorem ok__law_lead (ev : Ev K mg base) : Fn P w K mg base "_law_lead" 3 1 f__law_lead := by
  obtain ⟨fd, F⟩ := ev.says.def_ D__law_lead rfl
  exact ⟨⟨fd, ["_law_bag_here"], fk__law_lead ev F, (F.bindsN fun _ _ _ _ _ _ us hl => match us, hl with | [_], _ => rfl)⟩, ev.glo "_law_lead", F.kp, chk_len⟩
abbrev N__law_step : List Str := ["_law_bag_here", "_law_size", "_law_pick"]
abbrev st__law_step : Stmt := top 72
theorem sc__law_step : FnScope N__law_step ["_law_bag_here", "_law_size"] (defScope st__law_step) := ⟨rfl, rfl, rfl, by decide +kernel, rfl, by decide +kernel, by decide +kernel⟩
def m__law_step : Sm := (sSeq (sSet 2 (eCall f__law_draw (aCons (eVar 0) (aCons (eC (.int 14)) aNil)) [])) (sSeq (sIf (tOf (eBin ltI (eVar 2) (eC (.int 2)))) (sRet (eBin (catL false) (eLst false (aCons (eTup (aCons (eVar 2) (aCons (eC (.int 1)) aNil))) aNil)) (eBin (repL false) (eLst false (aCons (eTup (aCons (eC (.int 0)) (aCons (eC (.int 1)) aNil))) aNil)) (eBin subI (eVar 1) (eC (.int 1)))))) sNil) (sSeq (sIf (tOf (eBin ltI (eVar 2) (eC (.int 7)))) (sRet (eCall f__law_spread (aCons (eVar 0) (aCons (eVar 1) (aCons (eTup (aCons (eC (.int 1)) (aCons (eC (.int 1)) aNil))) aNil))) [])) sNil) (sSeq (sIf (tOf (eBin ltI (eVar 2) (eC (.int 9)))) (sRet (eCall f__law_spread (aCons (eVar 0) (aCons (eVar 1) (aCons (eTup (aCons (eUn negI (eC (.int 1))) (aCons (eC (.int 1)) aNil))) aNil))) [])) sNil) (sSeq (sIf (tOf (eBin ltI (eVar 2) (eC (.int 12)))) (sRet (eCall f__law_spread (aCons (eVar 0) (aCons (eVar 1) (aCons (eCall f__law_lead (aCons (eVar 0) aNil) []) aNil))) [])) sNil) (sRet (eCall f__law_spread (aCons (eVar 0) (aCons (eVar 1) (aCons (eTup (aCons (eC (.int 0)) (aCons (eC (.int 1)) aNil))) aNil))) [])))))))
def f__law_step : List D → Sto → Res D := chk 2 (runDef 3 m__law_step)
theorem fk__law_step (ev : Ev K mg base) {fd : FuncData} (F : FunD K "_law_step" "_law_step" (defArgs st__law_step) (defBody st__law_step) (defScope st__law_step) [] [] (He.ga K "_law_step") fd) : FnOk P w K mg base (CXp P w) 6 (He.ga K "_law_step") fd ["_law_bag_here", "_law_size"] (spM K 2 f__law_step) := by
  have h : spM K 2 f__law_step = spM K 2 (runDef 3 m__law_step) := runDef_chk
  rw [h]
  exact fn_sim (N := N__law_step) F sc__law_step fun cdv A outer s H E hr => (sss_cons (ss_set sc__law_step.nd (i := 2) rfl (by first | exact Or.inl rfl | exact Or.inr rfl) (se_fn (ok__law_draw ev) hr (by omega) cx_takes (sa_cons (se_var (pv 0)) (sa_cons se_int sa_nil)))) (sss_cons (ss_if (st_lt (se_var (pv 2)) se_int) (sss_one (ss_ret (se_cat (k := false) (se_lst (k := false) (sa_cons (se_tup (sa_cons (se_var (pv 2)) (sa_cons se_int sa_nil))) sa_nil)) (se_rep (k := false) (se_lst (k := false) (sa_cons (se_tup (sa_cons se_int (sa_cons se_int sa_nil))) sa_nil)) (se_sub (se_var (pv 1)) se_int))))) sss_nil) (sss_cons (ss_if (st_lt (se_var (pv 2)) se_int) (sss_one (ss_ret (se_fn (ok__law_spread ev) hr (by omega) cx_takes (sa_cons (se_var (pv 0)) (sa_cons (se_var (pv 1)) (sa_cons (se_tup (sa_cons se_int (sa_cons se_int sa_nil))) sa_nil)))))) sss_nil) (sss_cons (ss_if (st_lt (se_var (pv 2)) se_int) (sss_one (ss_ret (se_fn (ok__law_spread ev) hr (by omega) cx_takes (sa_cons (se_var (pv 0)) (sa_cons (se_var (pv 1)) (sa_cons (se_tup (sa_cons (se_neg se_int) (sa_cons se_int sa_nil))) sa_nil)))))) sss_nil) (sss_cons (ss_if (st_lt (se_var (pv 2)) se_int) (sss_one (ss_ret (se_fn (ok__law_spread ev) hr (by omega) cx_takes (sa_cons (se_var (pv 0)) (sa_cons (se_var (pv 1)) (sa_cons (se_fn (ok__law_lead ev) hr (by omega) cx_takes (sa_cons (se_var (pv 0)) sa_nil)) sa_nil)))))) sss_nil) (sss_one (ss_ret (se_fn (ok__law_spread ev) hr (by omega) cx_takes (sa_cons (se_var (pv 0)) (sa_cons (se_var (pv 1)) (sa_cons (se_tup (sa_cons se_int (sa_cons se_int sa_nil))) sa_nil)))))))))))
theorem ok__law_step (ev : Ev K mg base) : Fn P w K mg base "_law_step" 6 2 f__law_step := by
  obtain ⟨fd, F⟩ := ev.says.def_ D__law_step rfl
  exact ⟨⟨fd, ["_law_bag_here", "_law_size"], fk__law_step ev F, (F.bindsN fun _ _ _ _ _ _ us hl => match us, hl with | [_, _], _ => rfl)⟩, ev.glo "_law_step", F.kp, chk_len⟩
abbrev N__law_bent : List Str := ["_law_bag_here", "_law_a", "_law_some"]
abbrev st__law_bent : Stmt := top 73
theorem sc__law_bent : FnScope N__law_bent ["_law_bag_here", "_law_a"] (defScope st__law_bent) := ⟨rfl, rfl, rfl, by decide +kernel, rfl, by decide +kernel, by decide +kernel⟩
def m__law_bent : Sm := (sSeq (sSet 2 (eCall f__law_add (aCons (eVar 1) (aCons (eCall f__law_full (aCons (eVar 0) aNil) []) aNil)) [])) (sRet (eIf (tAnd (tOf (eBin ltI (eCB absD (aCons (eBin ixD (eVar 2) (eC (.int 0))) aNil)) (eBin powI (eC (.int 10)) (eC (.int 60))))) (tOf (eBin ltI (eBin ixD (eVar 2) (eC (.int 1))) (eBin powI (eC (.int 10)) (eC (.int 60)))))) (eVar 2) (eCall f__law_number (aCons (eVar 0) aNil) []))))
def f__law_bent : List D → Sto → Res D := chk 2 (runDef 3 m__law_bent)
theorem fk__law_bent (ev : Ev K mg base) {fd : FuncData} (F : FunD K "_law_bent" "_law_bent" (defArgs st__law_bent) (defBody st__law_bent) (defScope st__law_bent) [] [] (He.ga K "_law_bent") fd) : FnOk P w K mg base (CXp P w) 5 (He.ga K "_law_bent") fd ["_law_bag_here", "_law_a"] (spM K 2 f__law_bent) := by
  have h : spM K 2 f__law_bent = spM K 2 (runDef 3 m__law_bent) := runDef_chk
  rw [h]
  exact fn_sim (N := N__law_bent) F sc__law_bent fun cdv A outer s H E hr => (sss_cons (ss_set sc__law_bent.nd (i := 2) rfl (by first | exact Or.inl rfl | exact Or.inr rfl) (se_fn (ok__law_add ev) hr (by omega) cx_takes (sa_cons (se_var (pv 1)) (sa_cons (se_fn (ok__law_full ev) hr (by omega) cx_takes (sa_cons (se_var (pv 0)) sa_nil)) sa_nil)))) (sss_one (ss_ret (se_if (st_sw (sw_and (st_lt (se_cb call_abs gc_abs (ev.free "abs") (sa_cons (se_ix (se_var (pv 2)) se_int) sa_nil)) (se_pow se_int se_int)) (sw_and1 (st_lt (se_ix (se_var (pv 2)) se_int) (se_pow se_int se_int))))) (se_var (pv 2)) (se_fn (ok__law_number ev) hr (by omega) cx_takes (sa_cons (se_var (pv 0)) sa_nil))))))
theorem ok__law_bent (ev : Ev K mg base) : Fn P w K mg base "_law_bent" 5 2 f__law_bent := by
  obtain ⟨fd, F⟩ := ev.says.def_ D__law_bent rfl
  exact ⟨⟨fd, ["_law_bag_here", "_law_a"], fk__law_bent ev F, (F.bindsN fun _ _ _ _ _ _ us hl => match us, hl with | [_, _], _ => rfl)⟩, ev.glo "_law_bent", F.kp, chk_len⟩
abbrev N__law_step_so : List Str := ["_law_told", "_law_due"]
abbrev st__law_step_so : Stmt := top 74
theorem sc__law_step_so : FnScope N__law_step_so ["_law_told", "_law_due"] (defScope st__law_step_so) := ⟨rfl, rfl, rfl, by decide +kernel, rfl, by decide +kernel, by decide +kernel⟩
def m__law_step_so : Sm := (sRet (eAnd (eUn (isiD (isP clsL "Step")) (eVar 0)) (eCall (f__law_like 6) (aCons (eLst false (aCons (eUn (attD "order") (eVar 0)) (aCons (eMeth "Step" "numbers" f_Step_numbers (eVar 0) aNil) aNil))) (aCons (eLst false (aCons (eCB lenD (aCons (eVar 1) aNil)) (aCons (eVar 1) aNil))) aNil)) [])))
def f__law_step_so : List D → Sto → Res D := chk 2 (runDef 2 m__law_step_so)
theorem fk__law_step_so (ev : Ev K mg base) {fd : FuncData} (F : FunD K "_law_step_so" "_law_step_so" (defArgs st__law_step_so) (defBody st__law_step_so) (defScope st__law_step_so) [] [] (He.ga K "_law_step_so") fd) : FnOk P w K mg base (CXp P w) 8 (He.ga K "_law_step_so") fd ["_law_told", "_law_due"] (spM K 2 f__law_step_so) := by
  have h : spM K 2 f__law_step_so = spM K 2 (runDef 2 m__law_step_so) := runDef_chk
  rw [h]
  exact fn_sim (N := N__law_step_so) F sc__law_step_so fun cdv A outer s H E hr => (sss_one (ss_ret (se_and (se_isi (ev.free "isinstance") (se_var (pv 0)) (cls_own (ev.glo "Step")) (isP_ok ev.clsb (by decide +kernel))) (se_one (se_fn (ok__law_like ev 6) hr (by omega) cx_takes (sa_cons (se_lst (k := false) (sa_cons (se_att (se_var (pv 0))) (sa_cons (se_fm0 (fm_Step_numbers ev) hr (by omega) cx_takes (se_var (pv 0))) sa_nil))) (sa_cons (se_lst (k := false) (sa_cons (se_cb call_len gc_len (ev.free "len") (sa_cons (se_var (pv 1)) sa_nil)) (sa_cons (se_var (pv 1)) sa_nil))) sa_nil)))))))
theorem ok__law_step_so (ev : Ev K mg base) : Fn P w K mg base "_law_step_so" 8 2 f__law_step_so := by
  obtain ⟨fd, F⟩ := ev.says.def_ D__law_step_so rfl
  exact ⟨⟨fd, ["_law_told", "_law_due"], fk__law_step_so ev F, (F.bindsN fun _ _ _ _ _ _ us hl => match us, hl with | [_, _], _ => rfl)⟩, ev.glo "_law_step_so", F.kp, chk_len⟩
abbrev N__law_table : List Str := ["_law_a", "_law_u", "_law_k", "_law_high", "_law_some"]
abbrev st__law_table : Stmt := top 75
theorem sc__law_table : FnScope N__law_table ["_law_a"] (defScope st__law_table) := ⟨rfl, rfl, rfl, by decide +kernel, rfl, by decide +kernel, by decide +kernel⟩
def m__law_table : Sm := (sSeq (sSet 1 (eBin (catL false) (eLst false (aCons (eTup (aCons (eC (.int 0)) (aCons (eC (.int 1)) aNil))) aNil)) (eVar 0))) (sSeq (sPar 3 4 (eVar 1) (eLst true (aCons (eCB (listD false) (aCons (eVar 0) aNil)) aNil))) (sSeq (sFor (iRange1 (aCons (eBin subI (eCB lenD (aCons (eVar 0) aNil)) (eC (.int 1))) aNil)) (gN 2) (sSeq (sSet 3 (eCall f__law_times (aCons (eVar 3) (aCons (eVar 1) aNil)) [])) (sExpr (eBM "list" (mutD fAppend) (eVar 4) (aCons (eSl false (eVar 3) (pSome (eC (.int 1))) pNone) aNil))))) (sRet (eFrz (eVar 4))))))
def f__law_table : List D → Sto → Res D := chk 1 (runDef 5 m__law_table)
theorem fk__law_table (ev : Ev K mg base) {fd : FuncData} (F : FunD K "_law_table" "_law_table" (defArgs st__law_table) (defBody st__law_table) (defScope st__law_table) [] [] (He.ga K "_law_table") fd) : FnOk P w K mg base (CXp P w) 4 (He.ga K "_law_table") fd ["_law_a"] (spM K 1 f__law_table) := by
  have h : spM K 1 f__law_table = spM K 1 (runDef 5 m__law_table) := runDef_chk
  rw [h]
  exact fn_sim (N := N__law_table) F sc__law_table fun cdv A outer s H E hr => (sss_cons (ss_set sc__law_table.nd (i := 1) rfl (by first | exact Or.inl rfl | exact Or.inr rfl) (se_cat (k := false) (se_lst (k := false) (sa_cons (se_tup (sa_cons se_int (sa_cons se_int sa_nil))) sa_nil)) (se_var (pv 0)))) (sss_cons (ss_par (i := 3) (j := 4) rfl sc__law_table.nd rfl rfl (by decide) rfl rfl (se_var (pv 1)) (se_lst (k := true) (sa_cons (se_cty call_list_of (gc_list (k := false)) (ev.free "list") (sa_cons (se_var (pv 0)) sa_nil)) sa_nil)) (by rfl)) (sss_cons (ss_for cx_own rfl (si_range1 (ev.free "range") (sa_cons (se_sub (se_cb call_len gc_len (ev.free "len") (sa_cons (se_var (pv 0)) sa_nil)) se_int) sa_nil)) (sg_name (i := 2) sc__law_table.nd rfl (by first | exact Or.inl rfl | exact Or.inr rfl)) (sss_cons (ss_set sc__law_table.nd (i := 3) rfl (by first | exact Or.inl rfl | exact Or.inr rfl) (se_fn (ok__law_times ev) hr (by omega) cx_takes (sa_cons (se_var (pv 3)) (sa_cons (se_var (pv 1)) sa_nil)))) (sss_one (ss_expr (se_bm PySem.F.plainAttrs_list PySem.F.slot_list_append PySem.F.type_list_append mt_append gmt_append (se_var (pv 4)) (sa_cons (se_sl (k := false) (se_var (pv 3)) (sp_some se_int) sp_none) sa_nil)))))) (sss_one (ss_ret (se_frz (se_var (pv 4))))))))
theorem ok__law_table (ev : Ev K mg base) : Fn P w K mg base "_law_table" 4 1 f__law_table := by
  obtain ⟨fd, F⟩ := ev.says.def_ D__law_table rfl
  exact ⟨⟨fd, ["_law_a"], fk__law_table ev F, (F.bindsN fun _ _ _ _ _ _ us hl => match us, hl with | [_], _ => rfl)⟩, ev.glo "_law_table", F.kp, chk_len⟩
abbrev N__law_small_size : List Str := ["_law_bag_here"]
abbrev st__law_small_size : Stmt := top 76
theorem sc__law_small_size : FnScope N__law_small_size ["_law_bag_here"] (defScope st__law_small_size) := ⟨rfl, rfl, rfl, by decide +kernel, rfl, by decide +kernel, by decide +kernel⟩
def m__law_small_size : Sm := (sRet (eCall f__law_of (aCons (eVar 0) (aCons (eLst false (aCons (eC (.int 2)) (aCons (eC (.int 3)) (aCons (eC (.int 4)) (aCons (eC (.int 5)) (aCons (eC (.int 3)) (aCons (eC (.int 4)) (aCons (eC (.int 5)) (aCons (eC (.int 6)) (aCons (eC (.int 4)) (aCons (eC (.int 3)) aNil))))))))))) aNil)) []))
def f__law_small_size : List D → Sto → Res D := chk 1 (runDef 1 m__law_small_size)
theorem fk__law_small_size (ev : Ev K mg base) {fd : FuncData} (F : FunD K "_law_small_size" "_law_small_size" (defArgs st__law_small_size) (defBody st__law_small_size) (defScope st__law_small_size) [] [] (He.ga K "_law_small_size") fd) : FnOk P w K mg base (CXp P w) 3 (He.ga K "_law_small_size") fd ["_law_bag_here"] (spM K 1 f__law_small_size) := by
  have h : spM K 1 f__law_small_size = spM K 1 (runDef 1 m__law_small_size) := runDef_chk
  rw [h]
  exact fn_sim (N := N__law_small_size) F sc__law_small_size fun cdv A outer s H E hr => (sss_one (ss_ret (se_fn (ok__law_of ev) hr (by omega) cx_takes (sa_cons (se_var (pv 0)) (sa_cons (se_lst (k := false) (sa_cons se_int (sa_cons se_int (sa_cons se_int (sa_cons se_int (sa_cons se_int (sa_cons se_int (sa_cons se_int (sa_cons se_int (sa_cons se_int (sa_cons se_int sa_nil))))))))))) sa_nil)))))
theorem ok__law_small_size (ev : Ev K mg base) : Fn P w K mg base "_law_small_size" 3 1 f__law_small_size := by
  obtain ⟨fd, F⟩ := ev.says.def_ D__law_small_size rfl
  exact ⟨⟨fd, ["_law_bag_here"], fk__law_small_size ev F, (F.bindsN fun _ _ _ _ _ _ us hl => match us, hl with | [_], _ => rfl)⟩, ev.glo "_law_small_size", F.kp, chk_len⟩
abbrev N__law_free : List Str := ["_law_bag_here", "_law_size", "_law_k", "_law_j"]
abbrev st__law_free : Stmt := top 77
theorem sc__law_free : FnScope N__law_free ["_law_bag_here", "_law_size"] (defScope st__law_free) := ⟨rfl, rfl, rfl, by decide +kernel, rfl, by decide +kernel, by decide +kernel⟩
def m__law_free : Sm := (sRet (eComp false [2] (iRange1 (aCons (eVar 1) aNil)) (gN 2) tTrue (eComp false [3] (iRange1 (aCons (eVar 1) aNil)) (gN 3) tTrue (eCall f__law_number (aCons (eVar 0) aNil) []))))
def f__law_free : List D → Sto → Res D := chk 2 (runDef 4 m__law_free)
theorem fk__law_free (ev : Ev K mg base) {fd : FuncData} (F : FunD K "_law_free" "_law_free" (defArgs st__law_free) (defBody st__law_free) (defScope st__law_free) [] [] (He.ga K "_law_free") fd) : FnOk P w K mg base (CXp P w) 4 (He.ga K "_law_free") fd ["_law_bag_here", "_law_size"] (spM K 2 f__law_free) := by
  have h : spM K 2 f__law_free = spM K 2 (runDef 4 m__law_free) := runDef_chk
  rw [h]
  exact fn_sim (N := N__law_free) F sc__law_free fun cdv A outer s H E hr => (sss_one (ss_ret (se_comp (k := false) (own := [("_law_k", 2)]) rfl sc__law_free.nd (si_range1 (ev.free "range") (sa_cons (se_var (pv 1)) sa_nil)) (blkOk_by (N := N__law_free) (sc := defScope st__law_free) (own := [("_law_k", 2)]) (by decide +kernel)) (fun _ _ _ _ _ => (pg_name (i := 2) sc__law_free.nd rfl (Or.inl rfl))) (grel_name (i := 2) (by decide)) (fun _ _ _ _ _ => (se_comp (k := false) (own := [("_law_j", 3)]) rfl sc__law_free.nd (si_range1 (ev.free "range") (sa_cons (se_var (pv 1)) sa_nil)) (blkOk_nest (N := N__law_free) (sc0 := defScope st__law_free) (own := [("_law_j", 3)]) rfl (by decide +kernel)) (fun _ _ _ _ _ => (pg_name (i := 3) sc__law_free.nd rfl (Or.inl rfl))) (grel_name (i := 3) (by decide)) (fun _ _ _ _ _ => (se_fn (ok__law_number ev) hr (by omega) takes0 (sa_cons (se_var (pv 0)) sa_nil))))))))
theorem ok__law_free (ev : Ev K mg base) : Fn P w K mg base "_law_free" 4 2 f__law_free := by
  obtain ⟨fd, F⟩ := ev.says.def_ D__law_free rfl
  exact ⟨⟨fd, ["_law_bag_here", "_law_size"], fk__law_free ev F, (F.bindsN fun _ _ _ _ _ _ us hl => match us, hl with | [_, _], _ => rfl)⟩, ev.glo "_law_free", F.kp, chk_len⟩
abbrev N__law_fault : List Str := ["_law_error"]
abbrev st__law_fault : Stmt := top 78
theorem sc__law_fault : FnScope N__law_fault ["_law_error"] (defScope st__law_fault) := ⟨rfl, rfl, rfl, by decide +kernel, rfl, by decide +kernel, by decide +kernel⟩
def m__law_fault : Sm := (sSeq (sIf (tOf (eUn (isiD (isO ancO leafs "NotATable")) (eVar 0))) (sRet (eLst false (aCons (eUn (attD "code") (eVar 0)) (aCons (eUn (attD "line") (eVar 0)) (aCons (eUn (attD "place") (eVar 0)) aNil))))) sNil) (sRet (eLst false (aCons (eC (.str "another error")) aNil))))
def f__law_fault : List D → Sto → Res D := chk 1 (runDef 1 m__law_fault)
theorem fh__law_fault (ev : Ev K mg base) : FnH P w K mg base "_law_fault" 1 1 f__law_fault := by
  obtain ⟨fd, F⟩ := ev.says.def_ D__law_fault rfl
  exact fnH_name (k := 0) (N := N__law_fault) (ps := ["_law_error"]) F sc__law_fault (ev.glo "_law_fault") (F.bindsN fun _ _ _ _ _ _ us hl => match us, hl with | [_], _ => rfl) fun cdv A outer s H hr => (sss_cons (ss_if (st_val (se_isi (ev.free "isinstance") (se_var (pv 0)) (cls_own (ev.glo "NotATable")) (isO_ok ev.tab anc_ok (by decide +kernel)))) (sss_one (ss_ret (se_lst (k := false) (sa_cons (se_att (se_var (pv 0))) (sa_cons (se_att (se_var (pv 0))) (sa_cons (se_att (se_var (pv 0))) sa_nil)))))) sss_nil) (sss_one (ss_ret (se_lst (k := false) (sa_cons se_str sa_nil)))))
abbrev N__law_ask : List Str := ["_law_deed", "_law_error"]
abbrev st__law_ask : Stmt := top 79
theorem sc__law_ask : FnScope N__law_ask ["_law_deed"] (defScope st__law_ask) := ⟨rfl, rfl, rfl, by decide +kernel, rfl, by decide +kernel, by decide +kernel⟩
def cl__law_ask : List Cl := [⟨"CreepError", 1, sRet (eCallH f__law_fault (aCons (eVar 1) aNil))⟩]
def f__law_ask : (Sto → Res D) → Sto → Res D := fAsk 2 "told" ancO leafs cl__law_ask
theorem ask__law_ask (ev : Ev K mg base) : FnAsk P w K mg base "_law_ask" f__law_ask := by
  obtain ⟨fd, F⟩ := ev.says.def_ D__law_ask rfl
  refine ⟨⟨_, _, _, fd, N__law_ask, "_law_deed", F, sc__law_ask, rfl, .inl rfl, ⟨by decide, by decide⟩, F.bindsN fun _ _ _ _ _ _ us hl => match us, hl with | [_], _ => rfl, fun cdg => ?_⟩, ev.glo "_law_ask"⟩
  exact ask_gives (Ng := N__law_ask) sc__law_ask.nd (by decide) (fun A outer s H hr => (.cons ⟨rfl, by decide, .inl (ev.glo "CreepError")⟩ (i := 1) rfl rfl (fun a pn => sss_one (ss_ret (se_fnH (j := 1) (fh__law_fault ev) ⟨hr.dp, hr.un⟩ (by omega) (sa_cons (se_var (pv 1)) sa_nil)))) .nil)) fun C hC k hk => exm_ok ev.tab anc_ok (subB_ok ev.sub) hC (by
    simp only [cl__law_ask, List.mem_cons, List.not_mem_nil, or_false] at hk
    rcases hk with rfl <;> decide +kernel)
abbrev N__law_changed : List Str := ["_law_bag_here", "_law_lines_told", "_law_size", "_law_pick", "_law_part", "_law_k", "_law_j"]
abbrev st__law_changed : Stmt := top 80
theorem sc__law_changed : FnScope N__law_changed ["_law_bag_here", "_law_lines_told"] (defScope st__law_changed) := ⟨rfl, rfl, rfl, by decide +kernel, rfl, by decide +kernel, by decide +kernel⟩
def m__law_changed : Sm := (sSeq (sSet 2 (eCB lenD (aCons (eVar 1) aNil))) (sSeq (sPar 5 6 (eCall f__law_draw (aCons (eVar 0) (aCons (eVar 2) aNil)) []) (eCall f__law_draw (aCons (eVar 0) (aCons (eVar 2) aNil)) [])) (sSeq (sSet 3 (eCall f__law_draw (aCons (eVar 0) (aCons (eC (.int 6)) aNil)) [])) (sSeq (sIf (tOf (eBin eqD (eVar 3) (eC (.int 0)))) (sPar 5 6 (eBin subI (eVar 2) (eC (.int 1))) (eBin subI (eVar 2) (eC (.int 1)))) (sIf (tOf (eBin eqD (eVar 3) (eC (.int 1)))) (sSet 5 (eC (.int 0))) (sIf (tOf (eBin eqD (eVar 3) (eC (.int 2)))) (sSet 6 (eVar 5)) (sIf (tOf (eBin eqD (eVar 3) (eC (.int 3)))) (sPar 5 6 (eCB maxD (aCons (eVar 5) (aCons (eVar 6) aNil))) (eCB minD (aCons (eVar 5) (aCons (eVar 6) aNil)))) sNil)))) (sSeq (sSet 4 (eBin ixD (eVar 1) (eVar 5))) (sRet (eBin (catL false) (eBin (catL false) (eSl false (eVar 1) pNone (pSome (eVar 5))) (eLst false (aCons (eBin (catL false) (eBin (catL false) (eSl false (eVar 4) pNone (pSome (eVar 6))) (eLst false (aCons (eCall f__law_bent (aCons (eVar 0) (aCons (eBin ixD (eVar 4) (eVar 6)) aNil)) []) aNil))) (eSl false (eVar 4) (pSome (eBin addD (eVar 6) (eC (.int 1)))) pNone)) aNil))) (eSl false (eVar 1) (pSome (eBin addD (eVar 5) (eC (.int 1)))) pNone))))))))
def f__law_changed : List D → Sto → Res D := chk 2 (runDef 7 m__law_changed)
theorem fk__law_changed (ev : Ev K mg base) {fd : FuncData} (F : FunD K "_law_changed" "_law_changed" (defArgs st__law_changed) (defBody st__law_changed) (defScope st__law_changed) [] [] (He.ga K "_law_changed") fd) : FnOk P w K mg base (CXp P w) 6 (He.ga K "_law_changed") fd ["_law_bag_here", "_law_lines_told"] (spM K 2 f__law_changed) := by
  have h : spM K 2 f__law_changed = spM K 2 (runDef 7 m__law_changed) := runDef_chk
  rw [h]
  exact fn_sim (N := N__law_changed) F sc__law_changed fun cdv A outer s H E hr => (sss_cons (ss_set sc__law_changed.nd (i := 2) rfl (by first | exact Or.inl rfl | exact Or.inr rfl) (se_cb call_len gc_len (ev.free "len") (sa_cons (se_var (pv 1)) sa_nil))) (sss_cons (ss_par (i := 5) (j := 6) rfl sc__law_changed.nd rfl rfl (by decide) rfl rfl (se_fn (ok__law_draw ev) hr (by omega) cx_takes (sa_cons (se_var (pv 0)) (sa_cons (se_var (pv 2)) sa_nil))) (se_fn (ok__law_draw ev) hr (by omega) cx_takes (sa_cons (se_var (pv 0)) (sa_cons (se_var (pv 2)) sa_nil))) (by rfl)) (sss_cons (ss_set sc__law_changed.nd (i := 3) rfl (by first | exact Or.inl rfl | exact Or.inr rfl) (se_fn (ok__law_draw ev) hr (by omega) cx_takes (sa_cons (se_var (pv 0)) (sa_cons se_int sa_nil)))) (sss_cons (ss_if (st_eq hr (se_var (pv 3)) se_int) (sss_one (ss_par (i := 5) (j := 6) rfl sc__law_changed.nd rfl rfl (by decide) rfl rfl (se_sub (se_var (pv 2)) se_int) (se_sub (se_var (pv 2)) se_int) (by rfl))) (sss_one (ss_if (st_eq hr (se_var (pv 3)) se_int) (sss_one (ss_set sc__law_changed.nd (i := 5) rfl (by first | exact Or.inl rfl | exact Or.inr rfl) se_int)) (sss_one (ss_if (st_eq hr (se_var (pv 3)) se_int) (sss_one (ss_set sc__law_changed.nd (i := 6) rfl (by first | exact Or.inl rfl | exact Or.inr rfl) (se_var (pv 5)))) (sss_one (ss_if (st_eq hr (se_var (pv 3)) se_int) (sss_one (ss_par (i := 5) (j := 6) rfl sc__law_changed.nd rfl rfl (by decide) rfl rfl (se_cb (call_max2 rfl) gc_max (ev.free "max") (sa_cons (se_var (pv 5)) (sa_cons (se_var (pv 6)) sa_nil))) (se_cb (call_min2 rfl) gc_min (ev.free "min") (sa_cons (se_var (pv 5)) (sa_cons (se_var (pv 6)) sa_nil))) (by rfl))) sss_nil))))))) (sss_cons (ss_set sc__law_changed.nd (i := 4) rfl (by first | exact Or.inl rfl | exact Or.inr rfl) (se_ix (se_var (pv 1)) (se_var (pv 5)))) (sss_one (ss_ret (se_cat (k := false) (se_cat (k := false) (se_sl (k := false) (se_var (pv 1)) sp_none (sp_some (se_var (pv 5)))) (se_lst (k := false) (sa_cons (se_cat (k := false) (se_cat (k := false) (se_sl (k := false) (se_var (pv 4)) sp_none (sp_some (se_var (pv 6)))) (se_lst (k := false) (sa_cons (se_fn (ok__law_bent ev) hr (by omega) cx_takes (sa_cons (se_var (pv 0)) (sa_cons (se_ix (se_var (pv 4)) (se_var (pv 6))) sa_nil))) sa_nil))) (se_sl (k := false) (se_var (pv 4)) (sp_some (se_add (se_var (pv 6)) se_int)) sp_none)) sa_nil))) (se_sl (k := false) (se_var (pv 1)) (sp_some (se_add (se_var (pv 5)) se_int)) sp_none)))))))))
theorem ok__law_changed (ev : Ev K mg base) : Fn P w K mg base "_law_changed" 6 2 f__law_changed := by
  obtain ⟨fd, F⟩ := ev.says.def_ D__law_changed rfl
  exact ⟨⟨fd, ["_law_bag_here", "_law_lines_told"], fk__law_changed ev F, (F.bindsN fun _ _ _ _ _ _ us hl => match us, hl with | [_, _], _ => rfl)⟩, ev.glo "_law_changed", F.kp, chk_len⟩
abbrev N__law_so : List Str := ["_law_m", "_law_table_made", "_law_due", "_law_told", "_law_k", "_law_j", "_law_wrong"]
abbrev st__law_so : Stmt := top 81
theorem sc__law_so : FnScope N__law_so ["_law_m"] (defScope st__law_so) := ⟨rfl, rfl, rfl, by decide +kernel, rfl, by decide +kernel, by decide +kernel⟩
def m__law_so : Sm := (sSeq (sSet 1 (eFrz (eMkP "Table" f_Table___init__ 1 0 false (aCons (eVar 0) aNil) aNil))) (sSeq (sSet 2 (eCall f__law_table (aCons (eCB (listD false) (aCons (eBin ixD (eVar 0) (eC (.int 0))) aNil)) aNil) [])) (sSeq (sSet 3 (eLst false (aCons (eAsk f__law_ask (eCall f_step_of_table (aCons (eVar 1) aNil) [])) (aCons (eAsk f__law_ask (eCallK f_step_of_table 0 1 false aNil (aCons (eVar 1) aNil))) aNil)))) (sSeq (sFor (iRange1 (aCons (eCB lenD (aCons (eVar 0) aNil)) aNil)) (gN 4) (sFor (iRange1 (aCons (eCB lenD (aCons (eVar 0) aNil)) aNil)) (gN 5) (sIf (tOf (eBin neD (eBin ixD (eBin ixD (eVar 0) (eVar 4)) (eVar 5)) (eBin ixD (eBin ixD (eVar 2) (eVar 4)) (eVar 5)))) (sSeq (sSet 6 (eLst false (aCons (eC (.str "NotATable")) (aCons (eBin addD (eVar 4) (eC (.int 1))) (aCons (eBin addD (eVar 5) (eC (.int 1))) aNil))))) (sRet (eAnd (eCall (f__law_like 6) (aCons (eVar 3) (aCons (eLst false (aCons (eVar 6) (aCons (eVar 6) aNil))) aNil)) []) (eCall (f__law_like 6) (aCons (eMeth "Table" "lines" f_Table_lines (eVar 1) aNil) (aCons (eVar 0) aNil)) [])))) sNil))) (sSeq (sIf (tOr (tOf (eBin neD (eBin ixD (eBin ixD (eVar 3) (eC (.int 0))) (eC (.int 0))) (eC (.str "told")))) (tOr (tNot (tOf (eCall f__law_step_so (aCons (eBin ixD (eBin ixD (eVar 3) (eC (.int 0))) (eC (.int 1))) (aCons (eBin ixD (eVar 0) (eC (.int 0))) aNil)) []))) (tNot (tOf (eBin (eqLs "Step" f_Step___eq__) (eBin ixD (eVar 3) (eC (.int 1))) (eBin ixD (eVar 3) (eC (.int 0)))))))) (sRet (eC (.bl false))) sNil) (sRet (eAnd (eBin (eqO "Table" clsL f_Table___eq__) (eCall f_table_of (aCons (eBin ixD (eBin ixD (eVar 3) (eC (.int 0))) (eC (.int 1))) aNil) []) (eVar 1)) (eCall (f__law_like 6) (aCons (eMeth "Table" "lines" f_Table_lines (eVar 1) aNil) (aCons (eVar 0) aNil)) []))))))))
def f__law_so : List D → Sto → Res D := chk 1 (runDef 7 m__law_so)
theorem fk__law_so (ev : Ev K mg base) {fd : FuncData} (F : FunD K "_law_so" "_law_so" (defArgs st__law_so) (defBody st__law_so) (defScope st__law_so) [] [] (He.ga K "_law_so") fd) : FnOk P w K mg base (CXp P w) 10 (He.ga K "_law_so") fd ["_law_m"] (spM K 1 f__law_so) := by
  have h : spM K 1 f__law_so = spM K 1 (runDef 7 m__law_so) := runDef_chk
  rw [h]
  exact fn_simC (N := N__law_so) F sc__law_so fun cdv hcd A outer s H E hr => (sss_cons (ss_set sc__law_so.nd (i := 1) rfl (by first | exact Or.inl rfl | exact Or.inr rfl) (se_frz (se_mkP (mkp_Table ev) hr (by omega) cx_takes (inf_Table ev).mkr.kp (sa_cons (se_var (pv 0)) sa_nil) (by simp [mdp_Table])))) (sss_cons (ss_set sc__law_so.nd (i := 2) rfl (by first | exact Or.inl rfl | exact Or.inr rfl) (se_fn (ok__law_table ev) hr (by omega) cx_takes (sa_cons (se_cty call_list_of (gc_list (k := false)) (ev.free "list") (sa_cons (se_ix (se_var (pv 0)) se_int) sa_nil)) sa_nil))) (sss_cons (ss_set sc__law_so.nd (i := 3) rfl (by first | exact Or.inl rfl | exact Or.inr rfl) (se_lst (k := false) (sa_cons (se_ask (k := 7) (ask__law_ask ev) (hr.mono (by omega)) (ev.tab_ "_law_so") hcd (tab_mem (x := "_law_so") (by decide +kernel)) (tab_uniq (x := "_law_so") ev.inj (by decide +kernel)) (ys := []) (lamS3_by (N := N__law_so) (sc := defScope st__law_so) (by decide +kernel)) (.none rfl (fun _ _ _ _ _ => rfl)) (fun A outer s H E f c1 hr => (se_fn (ok_step_of_table ev) hr (by omega) lam_takes (sa_cons (se_var (pv 1)) sa_nil)))) (sa_cons (se_ask (k := 7) (ask__law_ask ev) (hr.mono (by omega)) (ev.tab_ "_law_so") hcd (tab_mem (x := "_law_so") (by decide +kernel)) (tab_uniq (x := "_law_so") ev.inj (by decide +kernel)) (ys := ["_law_x"]) (lamS3_by (N := N__law_so) (sc := defScope st__law_so) (by decide +kernel)) (.one rfl (fun _ _ _ _ _ v T => ⟨_, rfl, rfl⟩)) (fun A outer s H E f c1 hr => (se_fnK0 (ks := ["table"]) (okk_step_of_table ev) hr (by omega) lam_takes (sk_cons (se_var (pv 1)) sk_nil) (by simp)))) sa_nil)))) (sss_cons (ss_for cx_own rfl (si_range1 (ev.free "range") (sa_cons (se_cb call_len gc_len (ev.free "len") (sa_cons (se_var (pv 0)) sa_nil)) sa_nil)) (sg_name (i := 4) sc__law_so.nd rfl (by first | exact Or.inl rfl | exact Or.inr rfl)) (sss_one (ss_for cx_own rfl (si_range1 (ev.free "range") (sa_cons (se_cb call_len gc_len (ev.free "len") (sa_cons (se_var (pv 0)) sa_nil)) sa_nil)) (sg_name (i := 5) sc__law_so.nd rfl (by first | exact Or.inl rfl | exact Or.inr rfl)) (sss_one (ss_if (st_ne hr (se_ix (se_ix (se_var (pv 0)) (se_var (pv 4))) (se_var (pv 5))) (se_ix (se_ix (se_var (pv 2)) (se_var (pv 4))) (se_var (pv 5)))) (sss_cons (ss_set sc__law_so.nd (i := 6) rfl (by first | exact Or.inl rfl | exact Or.inr rfl) (se_lst (k := false) (sa_cons se_str (sa_cons (se_add (se_var (pv 4)) se_int) (sa_cons (se_add (se_var (pv 5)) se_int) sa_nil))))) (sss_one (ss_ret (se_and (se_fn (ok__law_like ev 6) hr (by omega) cx_takes (sa_cons (se_var (pv 3)) (sa_cons (se_lst (k := false) (sa_cons (se_var (pv 6)) (sa_cons (se_var (pv 6)) sa_nil))) sa_nil))) (se_one (se_fn (ok__law_like ev 6) hr (by omega) cx_takes (sa_cons (se_fm0 (fm_Table_lines ev) hr (by omega) cx_takes (se_var (pv 1))) (sa_cons (se_var (pv 0)) sa_nil)))))))) sss_nil))))) (sss_cons (ss_if (st_sw (sw_or (st_ne hr (se_ix (se_ix (se_var (pv 3)) se_int) se_int) se_str) (sw_or (st_not (st_val (se_fn (ok__law_step_so ev) hr (by omega) cx_takes (sa_cons (se_ix (se_ix (se_var (pv 3)) se_int) se_int) (sa_cons (se_ix (se_var (pv 0)) se_int) sa_nil))))) (sw_or1 (st_not (st_ops (ops_ls (fm_Step___eq__ ev) hr (by omega) cx_takes) (se_ix (se_var (pv 3)) se_int) (se_ix (se_var (pv 3)) se_int))))))) (sss_one (ss_ret se_bl)) sss_nil) (sss_one (ss_ret (se_and (se_ueq (fm_Table___eq__ ev) (ev.nf "Table") hr (by omega) cx_takes (se_fn (ok_table_of ev) hr (by omega) cx_takes (sa_cons (se_ix (se_ix (se_var (pv 3)) se_int) se_int) sa_nil)) (se_var (pv 1))) (se_one (se_fn (ok__law_like ev 6) hr (by omega) cx_takes (sa_cons (se_fm0 (fm_Table_lines ev) hr (by omega) cx_takes (se_var (pv 1))) (sa_cons (se_var (pv 0)) sa_nil))))))))))))
theorem ok__law_so (ev : Ev K mg base) : Fn P w K mg base "_law_so" 10 1 f__law_so := by
  obtain ⟨fd, F⟩ := ev.says.def_ D__law_so rfl
  exact ⟨⟨fd, ["_law_m"], fk__law_so ev F, (F.bindsN fun _ _ _ _ _ _ us hl => match us, hl with | [_], _ => rfl)⟩, ev.glo "_law_so", F.kp, chk_len⟩
abbrev N_law : List Str := ["_law_script", "_law_bag_here", "_law_lap", "_law_size", "_law_a", "_law_m", "_law_turn", "_law_w"]
abbrev st_law : Stmt := top 82
theorem sc_law : FnScope N_law ["_law_script"] (defScope st_law) := ⟨rfl, rfl, rfl, by decide +kernel, rfl, by decide +kernel, by decide +kernel⟩
def m_law : Sm := (sSeq (sSet 1 (eCall f__law_bag (aCons (eVar 0) aNil) [])) (sSeq (sFor (iRange1 (aCons (eC (.int 2)) aNil)) (gN 2) (sSeq (sSet 3 (eCall f__law_small_size (aCons (eVar 1) aNil) [])) (sSeq (sSet 4 (eCall f__law_step (aCons (eVar 1) (aCons (eVar 3) aNil)) [])) (sSeq (sSet 5 (eMeth "Table" "lines" f_Table_lines (eCall f_table_of (aCons (eFrz (eMkP "Step" f_Step___init__ 1 0 false (aCons (eVar 4) aNil) aNil)) aNil) []) aNil)) (sSeq (sIf (tOr (tNot (tOf (eCall (f__law_like 6) (aCons (eVar 5) (aCons (eCall f__law_table (aCons (eVar 4) aNil) []) aNil)) []))) (tNot (tOf (eCall f__law_so (aCons (eVar 5) aNil) [])))) (sRet (eC (.bl false))) sNil) (sSeq (sFor (iRange1 (aCons (eC (.int 3)) aNil)) (gN 6) (sSeq (sSet 7 (eCall f__law_changed (aCons (eVar 1) (aCons (eVar 5) aNil)) [])) (sSeq (sIf (tOf (eBin eqD (eCall f__law_draw (aCons (eVar 1) (aCons (eC (.int 3)) aNil)) []) (eC (.int 0)))) (sSet 7 (eCall f__law_changed (aCons (eVar 1) (aCons (eVar 7) aNil)) [])) sNil) (sIf (tNot (tOf (eCall f__law_so (aCons (eVar 7) aNil) []))) (sRet (eC (.bl false))) sNil)))) (sSeq (sSet 7 (eCall f__law_free (aCons (eVar 1) (aCons (eVar 3) aNil)) [])) (sSeq (sIf (tOf (eBin eqD (eCall f__law_draw (aCons (eVar 1) (aCons (eC (.int 2)) aNil)) []) (eC (.int 0)))) (sSet 7 (eBin (catL false) (eLst false (aCons (eCB (listD false) (aCons (eVar 4) aNil)) aNil)) (eSl false (eVar 7) (pSome (eC (.int 1))) pNone))) sNil) (sIf (tNot (tOf (eCall f__law_so (aCons (eVar 7) aNil) []))) (sRet (eC (.bl false))) sNil))))))))) (sRet (eC (.bl true)))))
def f_law : List D → Sto → Res D := chk 1 (runDef 8 m_law)
theorem fk_law (ev : Ev K mg base) {fd : FuncData} (F : FunD K "law" "law" (defArgs st_law) (defBody st_law) (defScope st_law) [] [] (He.ga K "law") fd) : FnOk P w K mg base (CXp P w) 11 (He.ga K "law") fd ["_law_script"] (spM K 1 f_law) := by
  have h : spM K 1 f_law = spM K 1 (runDef 8 m_law) := runDef_chk
  rw [h]
  exact fn_sim (N := N_law) F sc_law fun cdv A outer s H E hr => (sss_cons (ss_set sc_law.nd (i := 1) rfl (by first | exact Or.inl rfl | exact Or.inr rfl) (se_fn (ok__law_bag ev) hr (by omega) cx_takes (sa_cons (se_var (pv 0)) sa_nil))) (sss_cons (ss_for cx_own rfl (si_range1 (ev.free "range") (sa_cons se_int sa_nil)) (sg_name (i := 2) sc_law.nd rfl (by first | exact Or.inl rfl | exact Or.inr rfl)) (sss_cons (ss_set sc_law.nd (i := 3) rfl (by first | exact Or.inl rfl | exact Or.inr rfl) (se_fn (ok__law_small_size ev) hr (by omega) cx_takes (sa_cons (se_var (pv 1)) sa_nil))) (sss_cons (ss_set sc_law.nd (i := 4) rfl (by first | exact Or.inl rfl | exact Or.inr rfl) (se_fn (ok__law_step ev) hr (by omega) cx_takes (sa_cons (se_var (pv 1)) (sa_cons (se_var (pv 3)) sa_nil)))) (sss_cons (ss_set sc_law.nd (i := 5) rfl (by first | exact Or.inl rfl | exact Or.inr rfl) (se_fm0 (fm_Table_lines ev) hr (by omega) cx_takes (se_fn (ok_table_of ev) hr (by omega) cx_takes (sa_cons (se_frz (se_mkP (mkp_Step ev) hr (by omega) cx_takes (inf_Step ev).mkr.kp (sa_cons (se_var (pv 4)) sa_nil) (by simp [mdp_Step]))) sa_nil)))) (sss_cons (ss_if (st_sw (sw_or (st_not (st_val (se_fn (ok__law_like ev 6) hr (by omega) cx_takes (sa_cons (se_var (pv 5)) (sa_cons (se_fn (ok__law_table ev) hr (by omega) cx_takes (sa_cons (se_var (pv 4)) sa_nil)) sa_nil))))) (sw_or1 (st_not (st_val (se_fn (ok__law_so ev) hr (by omega) cx_takes (sa_cons (se_var (pv 5)) sa_nil))))))) (sss_one (ss_ret se_bl)) sss_nil) (sss_cons (ss_for cx_own rfl (si_range1 (ev.free "range") (sa_cons se_int sa_nil)) (sg_name (i := 6) sc_law.nd rfl (by first | exact Or.inl rfl | exact Or.inr rfl)) (sss_cons (ss_set sc_law.nd (i := 7) rfl (by first | exact Or.inl rfl | exact Or.inr rfl) (se_fn (ok__law_changed ev) hr (by omega) cx_takes (sa_cons (se_var (pv 1)) (sa_cons (se_var (pv 5)) sa_nil)))) (sss_cons (ss_if (st_eq hr (se_fn (ok__law_draw ev) hr (by omega) cx_takes (sa_cons (se_var (pv 1)) (sa_cons se_int sa_nil))) se_int) (sss_one (ss_set sc_law.nd (i := 7) rfl (by first | exact Or.inl rfl | exact Or.inr rfl) (se_fn (ok__law_changed ev) hr (by omega) cx_takes (sa_cons (se_var (pv 1)) (sa_cons (se_var (pv 7)) sa_nil))))) sss_nil) (sss_one (ss_if (st_not (st_val (se_fn (ok__law_so ev) hr (by omega) cx_takes (sa_cons (se_var (pv 7)) sa_nil)))) (sss_one (ss_ret se_bl)) sss_nil))))) (sss_cons (ss_set sc_law.nd (i := 7) rfl (by first | exact Or.inl rfl | exact Or.inr rfl) (se_fn (ok__law_free ev) hr (by omega) cx_takes (sa_cons (se_var (pv 1)) (sa_cons (se_var (pv 3)) sa_nil)))) (sss_cons (ss_if (st_eq hr (se_fn (ok__law_draw ev) hr (by omega) cx_takes (sa_cons (se_var (pv 1)) (sa_cons se_int sa_nil))) se_int) (sss_one (ss_set sc_law.nd (i := 7) rfl (by first | exact Or.inl rfl | exact Or.inr rfl) (se_cat (k := false) (se_lst (k := false) (sa_cons (se_cty call_list_of (gc_list (k := false)) (ev.free "list") (sa_cons (se_var (pv 4)) sa_nil)) sa_nil)) (se_sl (k := false) (se_var (pv 7)) (sp_some se_int) sp_none)))) sss_nil) (sss_one (ss_if (st_not (st_val (se_fn (ok__law_so ev) hr (by omega) cx_takes (sa_cons (se_var (pv 7)) sa_nil)))) (sss_one (ss_ret se_bl)) sss_nil)))))))))) (sss_one (ss_ret se_bl))))
theorem ok_law (ev : Ev K mg base) : Fn P w K mg base "law" 11 1 f_law := by
  obtain ⟨fd, F⟩ := ev.says.def_ D_law rfl
  exact ⟨⟨fd, ["_law_script"], fk_law ev F, (F.bindsN fun _ _ _ _ _ _ us hl => match us, hl with | [_], _ => rfl)⟩, ev.glo "law", F.kp, chk_len⟩
end K10

set_option linter.all false
set_option maxRecDepth 100000
set_option maxHeartbeats 2000000
namespace Sim
open PySem PySem.Spec PyProof.Rows L2
theorem eqD_int (a b : Int) (st : Sto) : eqD (.int a) (.int b) st = .ok (.bl (decide (a = b))) st := by
  show Res.ok (D.bl (a == b)) st = _
  rfl
theorem eqD_str (a b : Str) (st : Sto) (h1 : SeqAt.shaped (.str a) = true) (h2 : SeqAt.shaped (.str b) = true) : eqD (.str a) (.str b) st = .ok (.bl (decide (a = b))) st := by
  have e : eqD (.str a) (.str b) st = (if (SeqAt.shaped (.str a) && SeqAt.shaped (.str b)) = true then .ok (.bl (PyData.eqv (.str a) (.str b))) st else .bad) := rfl
  rw [e, h1, h2]
  rfl
theorem neD_bl (a b : Bool) (st : Sto) : neD (.bl a) (.bl b) st = .ok (.bl (a != b)) st := by
  cases a <;> cases b <;> rfl
@[simp] theorem eVar_def (i : Nat) (σ : Sl) (st : Sto) : eVar i σ st = (match σ[i]? with | some (some d) => .ok d st | _ => .bad) := rfl
@[simp] theorem eC_def (d : D) (σ : Sl) (st : Sto) : eC d σ st = .ok d st := rfl
theorem finR_le {n : Nat} {d : D} {st : Sto} (h : st.length ≤ n) : finR n d st = .ok d st := by unfold finR; rw [if_pos h]
end Sim
namespace K10
open PySem PySem.Spec PyProof.Rows L2 Sim
def bagL (xs : List Int) (i cur seed cnt : Int) : List D := [.lst (xs.map D.int), .int i, .int cur, .int seed, .int cnt]
structure BInv (o : Option O) : Prop where
  ex : ∃ (xs : List Int) (i cur seed cnt : Int), o = some (.lst (bagL xs i cur seed cnt)) ∧ 0 ≤ i ∧ 0 ≤ cur ∧ 0 ≤ seed ∧ seed < 2147483629 ∧ xs.length ≤ 63
section
variable (a b c d e v : D) (sr : Sto)
theorem ix0 : ixD (.ref 0) (.int 0) (some (.lst [a, b, c, d, e]) :: sr) = .ok a (some (.lst [a, b, c, d, e]) :: sr) := rfl
theorem ix1 : ixD (.ref 0) (.int 1) (some (.lst [a, b, c, d, e]) :: sr) = .ok b (some (.lst [a, b, c, d, e]) :: sr) := rfl
theorem ix2 : ixD (.ref 0) (.int 2) (some (.lst [a, b, c, d, e]) :: sr) = .ok c (some (.lst [a, b, c, d, e]) :: sr) := rfl
theorem ix3 : ixD (.ref 0) (.int 3) (some (.lst [a, b, c, d, e]) :: sr) = .ok d (some (.lst [a, b, c, d, e]) :: sr) := rfl
theorem ix4 : ixD (.ref 0) (.int 4) (some (.lst [a, b, c, d, e]) :: sr) = .ok e (some (.lst [a, b, c, d, e]) :: sr) := rfl
theorem sd1 : setD (.ref 0) (.int 1) v (some (.lst [a, b, c, d, e]) :: sr) = some (some (.lst [a, v, c, d, e]) :: sr) := rfl
theorem sd2 : setD (.ref 0) (.int 2) v (some (.lst [a, b, c, d, e]) :: sr) = some (some (.lst [a, b, v, d, e]) :: sr) := rfl
theorem sd3 : setD (.ref 0) (.int 3) v (some (.lst [a, b, c, d, e]) :: sr) = some (some (.lst [a, b, c, v, e]) :: sr) := rfl
theorem sd4 : setD (.ref 0) (.int 4) v (some (.lst [a, b, c, d, e]) :: sr) = some (some (.lst [a, b, c, d, v]) :: sr) := rfl
end
theorem lenI (xs : List Int) (st : Sto) (h : xs.length ≤ 63) : lenD [.lst (xs.map D.int)] st = .ok (.int xs.length) st := by
  have e : lenD [.lst (xs.map D.int)] st = .ok (.int ((xs.map D.int).length : Nat)) st := rfl
  rw [e, List.length_map]
theorem atX (xs : List Int) (i : Int) (h : 0 ≤ i) (h2 : i < xs.length) (st : Sto) : ∃ x, ixD (.lst (xs.map D.int)) (.int i) st = .ok (.int x) st := by
  have hl : i.toNat < xs.length := by omega
  refine ⟨xs[i.toNat], ?_⟩
  have e : ixD (.lst (xs.map D.int)) (.int i) st = (match atI (xs.map D.int) i with | some d => Res.ok d st | none => .bad) := rfl
  have e2 : atI (xs.map D.int) i = some (.int xs[i.toNat]) := by
    unfold atI ixN
    rw [if_pos h, if_pos (by rw [List.length_map]; exact h2)]
    simp [hl]
  rw [e, e2]
theorem mulC (i : Int) {j : Int} (h : j.natAbs < 2 ^ 64) : mulOk i j = true := by simp [mulOk, h]
theorem divC (i : Int) {j : Int} (h1 : 1 ≤ j) (h2 : j < 2 ^ 64) : divOk i j = true := by
  have : j.natAbs.log2 < 9000 := by
    have : j.natAbs < 2 ^ 64 := by omega
    have := (Nat.log2_lt (by omega : j.natAbs ≠ 0)).mpr this
    omega
  simp [divOk, this]; omega
theorem powC {i : Int} (h1 : 0 ≤ i) (h2 : i < 2147483629) : powOk i 3 = true := by
  have : i.natAbs < 2 ^ 64 := by omega
  simp [powOk, this]
theorem fmod_lt {a b : Int} (h : 1 ≤ b) : 0 ≤ a.fmod b ∧ a.fmod b < b := ⟨Int.fmod_nonneg_of_pos a (by omega), Int.fmod_lt_of_pos a (by omega)⟩
theorem fdiv_nn {a b : Int} (h : 0 ≤ a) (h2 : 1 ≤ b) : 0 ≤ a.fdiv b := Int.fdiv_nonneg h (by omega)
theorem intD_int (i : Int) (st : Sto) : intD [.int i] st = .ok (.int i) st := rfl
theorem draw {o : Option O} (h : BInv o) {L : Int} (h1 : 1 ≤ L) (h2 : L < 2 ^ 64) : ∃ (r : Int) (o' : Option O), (∀ sr : Sto, f__law_draw [.ref 0, .int L] (o :: sr) = .ok (.int r) (o' :: sr)) ∧ BInv o' ∧ 0 ≤ r ∧ r < L := by
  obtain ⟨xs, i, cur, seed, cnt, rfl, hi, hc, hs, hs2, hx⟩ := h.ex
  have fin : ∀ (cnt cur seed i : Int), 0 ≤ i → 0 ≤ cur → 0 ≤ seed → seed < 2147483629 → BInv (some (.lst (bagL xs i cur seed cnt))) := fun cnt cur seed i a b c d => ⟨xs, i, cur, seed, cnt, rfl, a, b, c, d, hx⟩
  have hL0 : L ≠ 0 := by omega
  have c1 : ∀ i, mulOk i 48271 = true := fun i => mulC i (by decide)
  have c2 : ∀ i, mulOk i 69621 = true := fun i => mulC i (by decide)
  have c3 : ∀ i, mulOk i 30103 = true := fun i => mulC i (by decide)
  have c4 : ∀ i, mulOk i 1299709 = true := fun i => mulC i (by decide)
  have c5 : ∀ i, mulOk i 67 = true := fun i => mulC i (by decide)
  have c6 : ∀ i, divOk i 97 = true := fun i => divC i (by decide) (by decide)
  have c7 : ∀ i, divOk i L = true := fun i => divC i h1 h2
  have c8 : powOk 10 18 = true := by decide +kernel
  by_cases hcur : cur = 0
  · subst hcur
    by_cases hlt : i < xs.length
    · obtain ⟨x, hx1⟩ := atX xs i hi hlt []
      have hat : ∀ st, ixD (.lst (xs.map D.int)) (.int i) st = .ok (.int x) st := fun st => by
        obtain ⟨y, hy⟩ := atX xs i hi hlt st
        have : y = x := by
          have e : ∀ st, ixD (.lst (xs.map D.int)) (.int i) st = (match atI (xs.map D.int) i with | some d => Res.ok d st | none => .bad) := fun _ => rfl
          rw [e] at hx1 hy
          cases q : atI (xs.map D.int) i with
          | none => rw [q] at hy; cases hy
          | some d =>
            rw [q] at hx1 hy
            cases hx1
            cases hy
            rfl
        rw [hy, this]
      by_cases hb : (10 : Int) ^ 18 ≤ x
      · have hp : (0 : Int) < x := by omega
        refine ⟨x.fmod L, _, fun sr => ?_, fin (cnt + 1) (x.fdiv L) seed (i + 1) (by omega) (fdiv_nn (by omega) h1) hs hs2, (fmod_lt h1).1, (fmod_lt h1).2⟩
        have hb' : (1000000000000000000 : Int) ≤ x := by simpa using hb
        simp [f__law_draw, chk, runDef, m__law_draw, bagL, ix0, ix1, ix2, ix3, ix4, sd1, sd2, sd3, sd4, eqD_int, lenI, hx, hlt, hat, ltI, geI, gtI, modI, fdivI, mulI, powI, c8, hb', hp, hL0, c7, intD_int, finR_le]
      · have hb' : ¬ (1000000000000000000 : Int) ≤ x := by simpa using hb
        have m1 := fmod_lt (a := seed * 69621 + x.fmod 2147483549 * 30103 + 89) (b := 2147483629) (by decide)
        generalize hs1 : (seed * 69621 + x.fmod 2147483549 * 30103 + 89).fmod 2147483629 = s1 at m1
        have m2 := fmod_lt (a := s1 ^ 3 + (cnt + 1) * 1299709 + 60013) (b := 2147483629) (by decide)
        have p1 := powC m1.1 m1.2
        refine ⟨_, _, fun sr => ?_, fin (cnt + 1) 0 _ (i + 1) (by omega) (by omega) m2.1 m2.2, (fmod_lt (a := ((s1 ^ 3 + (cnt + 1) * 1299709 + 60013).fmod 2147483629).fdiv 97 + ((s1 ^ 3 + (cnt + 1) * 1299709 + 60013).fmod 2147483629).fmod 7901 * 67) h1).1, (fmod_lt h1).2⟩
        simp [hlt, hat, hb', hs1, p1, f__law_draw, chk, runDef, m__law_draw, bagL, ix0, ix1, ix2, ix3, ix4, sd1, sd2, sd3, sd4, eqD_int, lenI, hx, ltI, geI, gtI, modI, fdivI, mulI, powI, c1, c2, c3, c4, c5, c6, c7, c8, hL0, intD_int, finR_le]
    · have m2 := fmod_lt (a := seed ^ 3 + (cnt + 1) * 1299709 + 60013) (b := 2147483629) (by decide)
      have p1 := powC hs hs2
      refine ⟨_, _, fun sr => ?_, fin (cnt + 1) 0 _ i hi (by omega) m2.1 m2.2, (fmod_lt (a := ((seed ^ 3 + (cnt + 1) * 1299709 + 60013).fmod 2147483629).fdiv 97 + ((seed ^ 3 + (cnt + 1) * 1299709 + 60013).fmod 2147483629).fmod 7901 * 67) h1).1, (fmod_lt h1).2⟩
      simp [hlt, p1, f__law_draw, chk, runDef, m__law_draw, bagL, ix0, ix1, ix2, ix3, ix4, sd1, sd2, sd3, sd4, eqD_int, lenI, hx, ltI, geI, gtI, modI, fdivI, mulI, powI, c1, c2, c3, c4, c5, c6, c7, c8, hL0, intD_int, finR_le]
  · have hp : 0 < cur := by omega
    refine ⟨cur.fmod L, _, fun sr => ?_, fin (cnt + 1) (cur.fdiv L) seed i hi (fdiv_nn (by omega) h1) hs hs2, (fmod_lt h1).1, (fmod_lt h1).2⟩
    simp [hcur, hp, f__law_draw, chk, runDef, m__law_draw, bagL, ix0, ix1, ix2, ix3, ix4, sd1, sd2, sd3, sd4, eqD_int, lenI, hx, ltI, geI, gtI, modI, fdivI, mulI, powI, c1, c2, c3, c4, c5, c6, c7, c8, hL0, intD_int, finR_le]
end K10
namespace K10
open PySem PySem.Spec PyProof.Rows L2 Sim
def s3F : List (Str × D) := [("_numbers", .lst [.tup [.int 0, .int 1], .tup [.int 1, .int 1], .tup [.int 0, .int 1], .tup [.int 0, .int 1]]), ("order", .int 3), ("lead", .tup [.int 1, .int 1]), ("height", .int 1), ("kind", .str "still"), ("flat", .non), ("strength", .non)]
def stepD : D := .ins "Step" s3F
inductive Pl : Nat → D → Prop
  | non (n : Nat) : Pl n .non
  | bl (n : Nat) (b : Bool) : Pl n (.bl b)
  | int (n : Nat) (i : Int) : Pl n (.int i)
  | str (n : Nat) (s : Str) (h : SeqAt.shaped (.str s) = true) : Pl n (.str s)
  | lst (n : Nat) (ds : List D) (l : ds.length ≤ 1000) (h : ∀ d ∈ ds, Pl n d) : Pl (n + 1) (.lst ds)
  | tup (n : Nat) (ds : List D) (l : ds.length ≤ 1000) (h : ∀ d ∈ ds, Pl n d) : Pl (n + 1) (.tup ds)
theorem compM_map {f : D → Sto → Res (Option D)} {g : D → D} {st : Sto} : ∀ {ds : List D}, (∀ d ∈ ds, f d st = .ok (some (g d)) st) → compM f ds st = .ok (ds.map g) st
  | [], _ => rfl
  | d :: ds, h => by
    unfold compM
    rw [h d List.mem_cons_self]
    simp only [compM_map (fun e he => h e (List.mem_cons_of_mem _ he)), List.map_cons]
end K10
namespace K10
open PySem PySem.Spec PyProof.Rows L2 Sim
theorem eqD_blS (b : Bool) (st : Sto) : eqD (.bl b) (.bl b) st = .ok (.bl true) st := by cases b <;> rfl
theorem zip_mem : ∀ {as bs : List D} {d : D}, d ∈ zipD as bs → ∃ a b, d = .tup [a, b]
  | [], _, d, h => by simp [zipD] at h
  | _ :: _, [], d, h => by simp [zipD] at h
  | a :: as, b :: bs, d, h => by
    unfold zipD at h
    rcases List.mem_cons.mp h with q | q
    · exact ⟨a, b, q⟩
    · exact zip_mem q
theorem zip_self : ∀ {as : List D} {d : D}, d ∈ zipD as as → ∃ a ∈ as, d = .tup [a, a]
  | [], d, h => by simp [zipD] at h
  | a :: as, d, h => by
    unfold zipD at h
    rcases List.mem_cons.mp h with q | q
    · exact ⟨a, List.mem_cons_self, q⟩
    · obtain ⟨b, hb, e⟩ := zip_self q
      exact ⟨b, List.mem_cons_of_mem _ hb, e⟩
theorem allB_rep : ∀ {l : List D}, (∀ d ∈ l, d = .bl true) → ∃ bs : List Bool, Sim.allB l = some bs ∧ (bs.all fun b => b) = true
  | [], _ => ⟨[], rfl, rfl⟩
  | d :: l, h => by
    obtain ⟨bs, e1, e2⟩ := allB_rep (fun e he => h e (List.mem_cons_of_mem _ he))
    have e := h d List.mem_cons_self
    subst e
    exact ⟨true :: bs, by simp [Sim.allB, e1], by simp [e2]⟩
theorem like_seq {k : Nat} {ds : List D} {st : Sto} (l : ds.length ≤ 1000) (ih : ∀ d ∈ ds, f__law_like k [d, d] st = .ok (.bl true) st) (x : D) :
    ∃ ys : List D, compM (compF [2, 3] (gT 2 (gsCons (gN 2) (gsCons (gN 3) gsNil))) tTrue (eCall (chk 2 (runDef 4 (m__law_like k))) (aCons (eVar 2) (aCons (eVar 3) aNil)) []) [some x, some x, none, none]) (zipD ds ds) st = .ok ys st ∧ ys.length ≤ 16777216 ∧ allD [.lst ys] st = .ok (.bl true) st := by
  have e : compM (compF [2, 3] (gT 2 (gsCons (gN 2) (gsCons (gN 3) gsNil))) tTrue (eCall (chk 2 (runDef 4 (m__law_like k))) (aCons (eVar 2) (aCons (eVar 3) aNil)) []) [some x, some x, none, none]) (zipD ds ds) st = .ok ((zipD ds ds).map fun _ => .bl true) st := compM_map fun d hd => by
    obtain ⟨a, ha, rfl⟩ := zip_self hd
    have := ih a ha
    unfold f__law_like at this
    simp [compF, wipeD, this]
  obtain ⟨bs, e1, e2⟩ := allB_rep (l := (zipD ds ds).map fun _ => D.bl true) (fun d hd => by
    obtain ⟨_, _, q⟩ := List.mem_map.mp hd
    exact q.symm)
  refine ⟨_, e, by rw [List.length_map, zipD_len]; omega, ?_⟩
  show (match Sim.allB _ with | some bs => Res.ok (D.bl (bs.all fun b => b)) st | none => .bad) = _
  rw [e1]
  simp only [e2]
theorem like {n : Nat} {d : D} (h : Pl n d) : ∀ (m : Nat) (st : Sto), n < m → f__law_like m [d, d] st = .ok (.bl true) st := by
  induction h with
  | non n => intro m st hm; obtain ⟨k, rfl⟩ : ∃ k, m = k + 1 := ⟨m - 1, by omega⟩; simp [f__law_like, chk, runDef, m__law_like, isiD, tgOf, isB, isB2, tyNames, finR_le, neD_bl, isN, eqX, isC]
  | bl n b => intro m st hm; obtain ⟨k, rfl⟩ : ∃ k, m = k + 1 := ⟨m - 1, by omega⟩; simp [f__law_like, chk, runDef, m__law_like, isiD, tgOf, isB, isB2, tyNames, finR_le, neD_bl, isN, eqD_blS, eqX, isC]
  | int n i => intro m st hm; obtain ⟨k, rfl⟩ : ∃ k, m = k + 1 := ⟨m - 1, by omega⟩; simp [f__law_like, chk, runDef, m__law_like, isiD, tgOf, isB, isB2, tyNames, finR_le, neD_bl, isN, eqD_int, eqX, isC]
  | str n s hs => intro m st hm; obtain ⟨k, rfl⟩ : ∃ k, m = k + 1 := ⟨m - 1, by omega⟩; simp [f__law_like, chk, runDef, m__law_like, isiD, tgOf, isB, isB2, tyNames, finR_le, neD_bl, isN, eqD_str _ _ _ hs hs, eqX, isC]
  | lst n ds l h ih =>
    intro m st hm
    obtain ⟨k, rfl⟩ : ∃ k, m = k + 1 := ⟨m - 1, by omega⟩
    obtain ⟨ys, e1, e2, e3⟩ := like_seq l (fun d hd => ih d hd k st (by omega)) (.lst ds)
    have e4 : lenD [.lst ds] st = .ok (.int ds.length) st := rfl
    simp [f__law_like, chk, runDef, m__law_like, isiD, tgOf, isB, isB2, tyNames, finR_le, neD_bl, isN, eComp, e4, eqD_int, eqX, isC, mkL, e2] at e1 e3 ⊢
    simp [e1, e2, e3, finR_le]
  | tup n ds l h ih =>
    intro m st hm
    obtain ⟨k, rfl⟩ : ∃ k, m = k + 1 := ⟨m - 1, by omega⟩
    obtain ⟨ys, e1, e2, e3⟩ := like_seq l (fun d hd => ih d hd k st (by omega)) (.tup ds)
    have e4 : lenD [.tup ds] st = .ok (.int ds.length) st := rfl
    simp [f__law_like, chk, runDef, m__law_like, isiD, tgOf, isB, isB2, tyNames, finR_le, neD_bl, isN, eComp, e4, eqD_int, eqX, isC, mkL, e2] at e1 e3 ⊢
    simp [e1, e2, e3, finR_le]
end K10
set_option maxHeartbeats 2000000
namespace K10
open PySem PySem.Spec PyProof.Rows L2 Sim
open PySem.PyData (strOk)
theorem ok_app (a b : Str) (h1 : strOk a = true) (h2 : strOk b = true) : strOk (a ++ b) = true := by
  have e : strOk (a ++ b) = (a.cps ++ b.cps).all (· < 0x110000) := rfl
  rw [e, Array.all_append]
  exact Bool.and_eq_true_iff.mpr ⟨h1, h2⟩
theorem ok_join (s : Str) (hs : strOk s = true) : ∀ ss : List Str, (∀ x ∈ ss, strOk x = true) → strOk (Txt.join s ss) = true := by
  intro ss h
  have e : Txt.join s ss = Str.join s ss := StrLaws.glued_eq_join ..
  rw [e]
  induction ss with
  | nil => kernel_rfl
  | cons x r ih =>
    cases r with
    | nil => exact h x List.mem_cons_self
    | cons y r =>
      show strOk (x ++ s ++ Str.join s (y :: r)) = true
      exact ok_app _ _ (ok_app _ _ (h x List.mem_cons_self) hs) (ih (fun z hz => h z (List.mem_cons_of_mem _ hz)) (StrLaws.glued_eq_join ..))
theorem shaped_str {s : Str} (h : strOk s = true) : SeqAt.shaped (.str s) = true := by
  unfold SeqAt.shaped
  refine Bool.and_eq_true_iff.mpr ⟨h, rfl⟩
theorem ixL (ds : List D) (r : Int) (h : 0 ≤ r) (h2 : r < ds.length) : ∃ d ∈ ds, ∀ st, ixD (.lst ds) (.int r) st = .ok d st := by
  have hl : r.toNat < ds.length := by omega
  refine ⟨ds[r.toNat], List.getElem_mem hl, fun st => ?_⟩
  have e : ixD (.lst ds) (.int r) st = (match atI ds r with | some d => Res.ok d st | none => .bad) := rfl
  have e2 : atI ds r = some ds[r.toNat] := by
    unfold atI ixN
    rw [if_pos h, if_pos h2]
    simp [hl]
  rw [e, e2]
theorem of_lst {o : Option O} (h : BInv o) {ds : List D} (h1 : 1 ≤ ds.length) (h2 : ds.length ≤ 1000) : ∃ d ∈ ds, ∃ o', (∀ sr : Sto, f__law_of [.ref 0, .lst ds] (o :: sr) = .ok d (o' :: sr)) ∧ BInv o' := by
  obtain ⟨r, o', e, hb, a1, a2⟩ := draw h (L := ds.length) (by omega) (by omega)
  obtain ⟨d, hd, e2⟩ := ixL ds r a1 a2
  have e4 : ∀ st, lenD [.lst ds] st = .ok (.int ds.length) st := fun _ => rfl
  refine ⟨d, hd, o', fun sr => ?_, hb⟩
  simp [f__law_of, chk, runDef, m__law_of, e4, e, e2, finR_le]
end K10
namespace K10
open PySem PySem.Spec PyProof.Rows L2 Sim
theorem bagLoop (x : D) : ∀ (ns : List Int) (seed : Int) (y : Option D), 0 ≤ seed → seed < 2147483629 → ∃ (seed' : Int) (y' : Option D), Sim.forM (inTurn (gN 2) (sSet 1 (eBin modI (eCB intD (aCons (eBin addD (eBin addD (eBin mulI (eVar 1) (eC (.int 48271))) (eBin modI (eCB intD (aCons (eVar 2) aNil)) (eC (.int 2147483587)))) (eC (.int 307))) aNil)) (eC (.int 2147483629))))) (ns.map D.int) [some x, some (.int seed), y] [] = .nx [some x, some (.int seed'), y'] [] ∧ 0 ≤ seed' ∧ seed' < 2147483629
  | [], seed, y, h1, h2 => ⟨seed, y, rfl, h1, h2⟩
  | n :: ns, seed, y, h1, h2 => by
    have m := fmod_lt (a := seed * 48271 + n.fmod 2147483587 + 307) (b := 2147483629) (by decide)
    obtain ⟨s', y', e, a, b⟩ := bagLoop x ns _ (some (.int n)) m.1 m.2
    refine ⟨s', y', ?_, a, b⟩
    have c1 : ∀ i, mulOk i 48271 = true := fun i => mulC i (by decide)
    rw [← e]
    simp [Sim.forM, inTurn, c1, mulI, modI, intD_int]
theorem bag (ns : List Int) (hn : ns.length ≤ 63) (x : D) (hx : x = .scr (ns.map D.int) ∨ x = .lst (ns.map D.int)) : ∃ o, f__law_bag [x] [] = .ok (.ref 0) [o] ∧ BInv o := by
  obtain ⟨s', y', e, a, b⟩ := bagLoop x ns 13960 none (by decide) (by decide)
  have hc : slD false x none (some 63) [] = .ok (.lst (ns.map D.int)) [] := by
    have q : Sim.cutD (ns.map D.int) none (some 63) = ns.map D.int := by
      unfold Sim.cutD
      have l : (ns.map D.int).length = ns.length := List.length_map ..
      have e1 : HT.sIx (ns.map D.int).length 0 none = 0 := rfl
      have e2 : ns.length ≤ HT.sIx (ns.map D.int).length (ns.map D.int).length (some 63) := by
        rw [l]
        have q := HT.sIx_nat ns.length ns.length 63
        have q : HT.sIx ns.length ns.length (some 63) = min 63 ns.length := q
        rw [q]; omega
      rw [e1, List.drop_zero, List.take_of_length_le]
      omega
    have q2 : slD false x none (some 63) [] = mkL false (Sim.cutD (ns.map D.int) none (some 63)) [] := by rcases hx with rfl | rfl <;> rfl
    rw [q2, q]
    have : ns.length ≤ 16777216 := by omega
    simp [mkL, line, this]
  have hl : ∀ st, listD false [.lst (ns.map D.int)] st = .ok (.lst (ns.map D.int)) st := fun st => by
    have q : listD false [.lst (ns.map D.int)] st = mkL false (ns.map D.int) st := rfl
    have : ns.length ≤ 16777216 := by omega
    rw [q]
    simp [mkL, line, this]
  refine ⟨some (.lst (bagL ns 0 0 s' 0)), ?_, ns, 0, 0, s', 0, rfl, by decide, by decide, a, b, hn⟩
  simp only [f__law_bag, chk, runDef, m__law_bag]
  simp [eSl, hc, e, hl, mkL, line, bagL]
  rfl
end K10

set_option linter.all false
set_option maxRecDepth 100000
set_option maxHeartbeats 2000000
namespace Sim
open PySem PySem.Spec PyProof.Rows L2
theorem log2_lt' {n a : Nat} (h : n < 2 ^ a) (ha : 0 < a) : n.log2 < a := by
  by_cases e : n = 0
  · subst e; simpa using ha
  · exact (Nat.log2_lt e).mpr h
theorem mulB {i j : Int} {a b : Nat} (h1 : i.natAbs < 2 ^ a) (h2 : j.natAbs < 2 ^ b) (h : a + b ≤ 10000000) : mulOk i j = true := by
  have g1 := log2_lt' (a := a + 1) (Nat.lt_of_lt_of_le h1 (Nat.pow_le_pow_right (by decide) (by omega))) (by omega)
  have g2 := log2_lt' (a := b + 1) (Nat.lt_of_lt_of_le h2 (Nat.pow_le_pow_right (by decide) (by omega))) (by omega)
  have : i.natAbs.log2 + j.natAbs.log2 < 100000000 := by omega
  simp [mulOk, this]
theorem divB {i j : Int} {a : Nat} (h0 : j ≠ 0) (h1 : j.natAbs < 2 ^ a) (h : a ≤ 8000) : divOk i j = true := by
  have g1 := log2_lt' (a := a + 1) (Nat.lt_of_lt_of_le h1 (Nat.pow_le_pow_right (by decide) (by omega))) (by omega)
  have : j.natAbs.log2 < 9000 := by omega
  simp [divOk, this, h0]
section
variable (i j : Int) (st : Sto)
@[simp] theorem gtI_int : gtI (.int i) (.int j) st = .ok (.bl (decide (j < i))) st := rfl
@[simp] theorem ltI_int : ltI (.int i) (.int j) st = .ok (.bl (decide (i < j))) st := rfl
@[simp] theorem leI_int : leI (.int i) (.int j) st = .ok (.bl (decide (i ≤ j))) st := rfl
@[simp] theorem geI_int : geI (.int i) (.int j) st = .ok (.bl (decide (j ≤ i))) st := rfl
@[simp] theorem subI_int : subI (.int i) (.int j) st = .ok (.int (i - j)) st := rfl
theorem mulI_int (h : mulOk i j = true) : mulI (.int i) (.int j) st = .ok (.int (i * j)) st := by simp [mulI, iOpC, h]
theorem fdivI_int (h : divOk i j = true) : fdivI (.int i) (.int j) st = .ok (.int (i.fdiv j)) st := by simp [fdivI, iOpC, h]
theorem modI_int (h : j ≠ 0) : modI (.int i) (.int j) st = .ok (.int (i.fmod j)) st := by simp [modI, iOpC, h]
theorem powI_int (h : powOk i j = true) : powI (.int i) (.int j) st = .ok (.int (i ^ j.toNat)) st := by simp [powI, iOpC, h]
theorem shlI_int (h : powOk i j = true) : shlI (.int i) (.int j) st = .ok (.int (i * 2 ^ j.toNat)) st := by simp [shlI, iOpC, h]
theorem absI (i : Int) : (if i < 0 then -i else i) = ((i.natAbs : Nat) : Int) := by split <;> omega
end
theorem powN (a k : Nat) : ((a : Int)) ^ k = ((a ^ k : Nat) : Int) := by simp
theorem intsL_cons (lo : Int) (n : Nat) : intsL lo (n + 1) = .int lo :: intsL (lo + 1) n := by
  unfold intsL
  rw [List.range_succ_eq_map, List.map_cons, List.map_map]
  simp only [Int.natCast_zero, Int.add_zero]
  congr 1
  refine List.map_congr_left fun i _ => ?_
  simp only [Function.comp]
  congr 1
  omega
theorem natAbs_lt_mul {x y : Int} {a b : Nat} (h1 : x.natAbs < 2 ^ a) (h2 : y.natAbs < 2 ^ b) : (x * y).natAbs < 2 ^ (a + b) := by
  rw [Int.natAbs_mul, Nat.pow_add]
  exact Nat.mul_lt_mul'' h1 h2
end Sim
namespace K10
open PySem PySem.Spec PyProof.Rows L2 Sim
/-! ### lowest terms -/
theorem lowLoop (p q : D) (st : Sto) : ∀ (n b a : Nat), b < n → whileM (tOf (eBin gtI (eVar 3) (eC (.int 0)))) (sPar 2 3 (eVar 3) (eBin modI (eCB intD (aCons (eVar 2) aNil)) (eVar 3))) n [some p, some q, some (.int (a : Nat)), some (.int (b : Nat))] st = .nx [some p, some q, some (.int (Nat.gcd a b : Nat)), some (.int 0)] st
  | 0, b, a, h => absurd h (Nat.not_lt_zero _)
  | n + 1, b, a, h => by
    unfold whileM
    by_cases hb : b = 0
    · subst hb
      simp
    · have hb2 : (0 : Int) < (b : Int) := by omega
      have hb3 : ¬ ((b : Int) = 0) := by omega
      have hm : ((a : Int)).fmod b = ((a % b : Nat) : Int) := by
        rw [Int.fmod_eq_emod_of_nonneg _ (by omega)]
        simp
      have ih := lowLoop p q st n (a % b) b (Nat.lt_of_lt_of_le (Nat.mod_lt a (by omega)) (by omega))
      rw [Nat.gcd_comm b (a % b), ← Nat.gcd_rec, Nat.gcd_comm] at ih
      have hq : modI (.int (a : Nat)) (.int (b : Nat)) st = .ok (.int ((a % b : Nat) : Int)) st := by rw [modI_int _ _ _ hb3, hm]
      simp [intD_int, hq, Nat.pos_of_ne_zero hb, hb]
      exact ih
theorem low (p q : Int) (hq : q ≠ 0) {a : Nat} (hb : q.natAbs < 2 ^ a) (ha : a ≤ 8000) : ∃ P Q : Int, (∀ st, f__law_low [.int p, .int q] st = .ok (.tup [.int P, .int Q]) st) ∧ 1 ≤ Q ∧ Nat.gcd P.natAbs Q.natAbs = 1 ∧ P.natAbs ≤ p.natAbs ∧ Q.natAbs ≤ q.natAbs ∧ (Nat.gcd p.natAbs q.natAbs = 1 → 0 < q → P = p ∧ Q = q) ∧ (0 ≤ p → 0 < q → 0 ≤ P) ∧ (Nat.gcd p.natAbs q.natAbs = 1 → q < 0 → P = -p ∧ Q = -q) ∧ (∀ st, f_ratio [.int p, .int q] st = .ok (.tup [.int P, .int Q]) st) ∧ p * Q = P * q := by
  let g := Nat.gcd p.natAbs q.natAbs
  have hg : 0 < g := Nat.gcd_pos_of_pos_right _ (by omega)
  have hgq : g ≤ q.natAbs := Nat.gcd_le_right _ (by omega)
  let s : Int := if q < 0 then -(g : Int) else g
  have hs : s.natAbs = g := by
    show (if q < 0 then -(g : Int) else (g : Int)).natAbs = g
    split <;> omega
  have hs0 : s ≠ 0 := by omega
  obtain ⟨m, hm⟩ : (s : Int) ∣ p := Int.natAbs_dvd_natAbs.mp (by rw [hs]; exact Nat.gcd_dvd_left _ _)
  obtain ⟨n, hn⟩ : (s : Int) ∣ q := Int.natAbs_dvd_natAbs.mp (by rw [hs]; exact Nat.gcd_dvd_right _ _)
  have e1 : p.fdiv s = m := by rw [hm]; exact Int.mul_fdiv_cancel_left _ hs0
  have e2 : q.fdiv s = n := by rw [hn]; exact Int.mul_fdiv_cancel_left _ hs0
  have d : ∀ i, divOk i s = true := fun i => divB hs0 (a := a) (by omega) ha
  have hmg : p.natAbs = g * m.natAbs := by rw [hm, Int.natAbs_mul, hs]
  have hng : q.natAbs = g * n.natAbs := by rw [hn, Int.natAbs_mul, hs]
  have hgcd : Nat.gcd m.natAbs n.natAbs = 1 := by
    have z : g = g * Nat.gcd m.natAbs n.natAbs := by
      rw [← Nat.gcd_mul_left, ← hmg, ← hng]
    have : g * Nat.gcd m.natAbs n.natAbs = g * 1 := by omega
    exact Nat.eq_of_mul_eq_mul_left hg this
  have hn1 : 1 ≤ n := by
    by_cases h : q < 0
    · have hs1 : s = -(g : Int) := if_pos h
      rw [hs1] at hn
      by_cases z : n ≤ 0
      · have : 0 ≤ -(g : Int) * n := Int.mul_nonneg_of_nonpos_of_nonpos (by omega) z
        omega
      · omega
    · have hs1 : s = (g : Int) := if_neg h
      rw [hs1] at hn
      by_cases z : n ≤ 0
      · have : (g : Int) * n ≤ 0 := Int.mul_nonpos_of_nonneg_of_nonpos (by omega) z
        omega
      · omega
  have key : p * n = m * q := by
    have k1 : p * n = s * m * n := by rw [← hm]
    have k2 : m * q = m * (s * n) := by rw [← hn]
    rw [k1, k2, Int.mul_comm s m, Int.mul_assoc]
  refine ⟨m, n, fun st => ?_, hn1, hgcd, ?_, ?_, fun h1 h2 => ?_, fun h1 h2 => ?_, fun h1 h2 => ?_, fun st => ?_, key⟩
  · have lp := lowLoop (.int p) (.int q) st (slotN 3 [some (.int p), some (.int q), some (.int (p.natAbs : Nat)), some (.int (q.natAbs : Nat))]) q.natAbs p.natAbs (by
      show q.natAbs < ((q.natAbs : Nat) : Int).natAbs + 2
      omega)
    simp only [f__law_low, chk, runDef, m__law_low]
    simp [absI, sWhile, w__law_low_401, lp]
    by_cases h : q < 0
    · have hs1 : s = -(g : Int) := if_pos h
      simp [h]
      have d1 : ∀ i, divOk i (-((p.natAbs.gcd q.natAbs : Nat) : Int)) = true := fun i => by rw [← show s = -((p.natAbs.gcd q.natAbs : Nat) : Int) from hs1]; exact d i
      have e1' : p.fdiv (-((p.natAbs.gcd q.natAbs : Nat) : Int)) = m := by rw [← show s = -((p.natAbs.gcd q.natAbs : Nat) : Int) from hs1]; exact e1
      have e2' : q.fdiv (-((p.natAbs.gcd q.natAbs : Nat) : Int)) = n := by rw [← show s = -((p.natAbs.gcd q.natAbs : Nat) : Int) from hs1]; exact e2
      simp [fdivI_int, d1, e1', e2', finR_le, line]
    · have hs1 : s = (g : Int) := if_neg h
      simp [h]
      have d1 : ∀ i, divOk i (((p.natAbs.gcd q.natAbs : Nat) : Int)) = true := fun i => by rw [← show s = ((p.natAbs.gcd q.natAbs : Nat) : Int) from hs1]; exact d i
      have e1' : p.fdiv (((p.natAbs.gcd q.natAbs : Nat) : Int)) = m := by rw [← show s = ((p.natAbs.gcd q.natAbs : Nat) : Int) from hs1]; exact e1
      have e2' : q.fdiv (((p.natAbs.gcd q.natAbs : Nat) : Int)) = n := by rw [← show s = ((p.natAbs.gcd q.natAbs : Nat) : Int) from hs1]; exact e2
      simp [fdivI_int, d1, e1', e2', finR_le, line]
  · rw [hmg]; exact Nat.le_mul_of_pos_left _ hg
  · rw [hng]; exact Nat.le_mul_of_pos_left _ hg
  · have hs1 : s = (g : Int) := if_neg (by omega)
    have : s = 1 := by rw [hs1]; show ((Nat.gcd p.natAbs q.natAbs : Nat) : Int) = 1; omega
    rw [this] at hm hn
    omega
  · have hs1 : s = (g : Int) := if_neg (by omega)
    rw [hs1] at hm
    by_cases z : m < 0
    · have : (g : Int) * m < 0 := Int.mul_neg_of_pos_of_neg (by omega) z
      omega
    · omega
  · have hs1 : s = -(g : Int) := if_pos h2
    have : s = -1 := by rw [hs1]; show -((Nat.gcd p.natAbs q.natAbs : Nat) : Int) = -1; omega
    rw [this] at hm hn
    omega
  · obtain ⟨gi, hgi⟩ : ∃ gi : Int, gi = ((Nat.gcd p.natAbs q.natAbs : Nat) : Int) := ⟨_, rfl⟩
    have hgg : ∀ st, gcdD [.int p, .int q] st = .ok (.int gi) st := fun st => by rw [hgi]; exact gcdD_int p q st
    have hga : gi.natAbs = g := by rw [hgi]; rfl
    have hgi' : gi = (g : Int) := hgi
    have d1 : ∀ i, divOk i gi = true := fun i => divB (by omega) (a := a) (by omega) ha
    have nm : ∀ i st, negI (.int i) st = .ok (.int (-i)) st := fun _ _ => rfl
    simp only [f_ratio, chk, runDef, m_ratio]
    by_cases h : q < 0
    · have hs1 : s = -gi := by rw [hgi']; exact if_pos h
      rw [hs1] at hm hn
      have k1 : (-p).fdiv gi = m := by
        have : -p = gi * m := by rw [hm, Int.neg_mul, Int.neg_neg]
        rw [this]; exact Int.mul_fdiv_cancel_left _ (by omega)
      have k2 : (-q).fdiv gi = n := by
        have : -q = gi * n := by rw [hn, Int.neg_mul, Int.neg_neg]
        rw [this]; exact Int.mul_fdiv_cancel_left _ (by omega)
      simp [-gcdD_int, eqD_int, hq, hgg, h, nm, fdivI_int _ _ _ (d1 _), k1, k2, finR_le, line]
    · have hs1 : s = gi := by rw [hgi']; exact if_neg h
      rw [hs1] at hm hn
      have k1 : p.fdiv gi = m := by rw [hm]; exact Int.mul_fdiv_cancel_left _ (by omega)
      have k2 : q.fdiv gi = n := by rw [hn]; exact Int.mul_fdiv_cancel_left _ (by omega)
      simp [-gcdD_int, eqD_int, hq, hgg, h, nm, fdivI_int _ _ _ (d1 _), k1, k2, finR_le, line]
end K10

set_option linter.all false
set_option maxRecDepth 100000
set_option maxHeartbeats 2000000
namespace K10
open PySem PySem.Spec PyProof.Rows L2 Sim
theorem two_le_line : (2 ≤ line) = True := eq_true (by decide)
theorem one_le_line : (1 ≤ line) = True := eq_true (by decide)
theorem le_line {n : Nat} (h : n ≤ 10000) : (n ≤ line) = True := eq_true (Nat.le_trans h (by decide))
theorem catE (a b : List D) (st : Sto) : catL false (.lst a) (.lst b) st = mkL false (a ++ b) st := rfl
theorem mkF (a : List D) (h : a.length ≤ 10000) (st : Sto) : mkL false a st = .ok (.lst a) st := by
  unfold mkL
  rw [if_pos (Nat.le_trans h (by decide))]
theorem of_ints {o : Option O} (h : BInv o) {ns : List Int} (h1 : 1 ≤ ns.length) (h2 : ns.length ≤ 1000) : ∃ i ∈ ns, ∃ o', (∀ sr : Sto, f__law_of [.ref 0, .lst (ns.map .int)] (o :: sr) = .ok (.int i) (o' :: sr)) ∧ BInv o' := by
  obtain ⟨d, hd, o', e, hb⟩ := of_lst h (ds := ns.map .int) (by simpa using h1) (by simpa using h2)
  obtain ⟨i, hi, rfl⟩ := List.mem_map.mp hd
  exact ⟨i, hi, o', e, hb⟩
/-- a fraction, with its size -/
def Fr (B : Nat) (d : D) : Prop := ∃ P Q : Int, d = .tup [.int P, .int Q] ∧ 1 ≤ Q ∧ Q.natAbs < B ∧ P.natAbs < B ∧ Nat.gcd P.natAbs Q.natAbs = 1
theorem t60 : (10 : Nat) ^ 60 < 2 ^ 200 := by decide
theorem neD_int (a b : Int) (st : Sto) : neD (.int a) (.int b) st = .ok (.bl (!decide (a = b))) st := by
  show Res.ok (D.bl (!(a == b))) st = _
  rfl
theorem number {o : Option O} (h : BInv o) : ∃ (d : D) (o' : Option O), (∀ sr : Sto, f__law_number [.ref 0] (o :: sr) = .ok d (o' :: sr)) ∧ BInv o' ∧ Fr 10000000 d := by
  obtain ⟨r, o1, e1, h1, r0, r1⟩ := draw h (L := 18) (by decide) (by decide)
  by_cases c1 : r < 6
  · refine ⟨.tup [.int 0, .int 1], o1, fun sr => ?_, h1, 0, 1, rfl, by decide, by decide, by decide, by decide⟩
    simp only [f__law_number, chk, runDef, m__law_number]
    simp [e1, c1, finR_le, two_le_line]
  by_cases c2 : r < 8
  · refine ⟨.tup [.int 1, .int 1], o1, fun sr => ?_, h1, 1, 1, rfl, by decide, by decide, by decide, by decide⟩
    simp only [f__law_number, chk, runDef, m__law_number]
    simp [e1, c1, c2, finR_le, two_le_line]
  obtain ⟨s, o2, e2, h2, s0, s1⟩ := draw h1 (L := 9) (by decide) (by decide)
  have l3 : ∀ (a b c : D) st, mkL false [a, b, c] st = .ok (.lst [a, b, c]) st := fun _ _ _ _ => rfl
  have l6 : ∀ (a b c d e f : D) st, mkL false [a, b, c, d, e, f] st = .ok (.lst [a, b, c, d, e, f]) st := fun _ _ _ _ _ _ _ => rfl
  have fin : ∀ (p : Int) (o : Option O), BInv o → 1 ≤ p → p < 10000000 → ∃ (d : D) (o' : Option O), (∃ (q : Int) (o2 : Option O), (∀ sr : Sto, f__law_draw [.ref 0, .int 2] (o :: sr) = .ok (.int q) (o2 :: sr)) ∧ ∃ z, (∀ sr : Sto, f__law_of [.ref 0, .lst [.int 1, .int 1, .int 2, .int 1, .int 3, .int 1]] (o2 :: sr) = .ok (.int z) (o' :: sr)) ∧ ∀ st, f__law_low [.int (if q = 1 then -p else p), .int z] st = .ok d st) ∧ BInv o' ∧ Fr 10000000 d := by
    intro p o h p0 p1
    obtain ⟨q, o2, e3, h3, _, _⟩ := draw h (L := 2) (by decide) (by decide)
    obtain ⟨z, hz, o4, e4, h4⟩ := of_ints h3 (ns := [1, 1, 2, 1, 3, 1]) (by decide) (by decide)
    have hz2 : 1 ≤ z ∧ z ≤ 3 := by simp at hz; omega
    obtain ⟨P, Q, e5, g1, g2, g3, g4, _⟩ := low (if q = 1 then -p else p) z (by omega) (a := 200) (by omega) (by decide)
    have : (if q = 1 then -p else p).natAbs = p.natAbs := by split <;> omega
    exact ⟨_, o4, ⟨q, o2, e3, z, e4, e5⟩, h4, P, Q, rfl, g1, by omega, by omega, g2⟩
  by_cases c3 : r = 17
  · obtain ⟨n, hn, o3, e3, h3⟩ := of_ints h2 (ns := [100, 10000, 1000000]) (by decide) (by decide)
    have hn2 : 1 ≤ n ∧ n ≤ 1000000 := by simp at hn; omega
    obtain ⟨t, o4, e4, h4, t0, t1⟩ := draw h3 (L := n) hn2.1 (by omega)
    obtain ⟨d, o5, hx, h5, hd⟩ := fin (1 + s + t) o4 h4 (by omega) (by omega)
    obtain ⟨q, o6, e6, z, e7, e8⟩ := hx
    refine ⟨d, o5, fun sr => ?_, h5, hd⟩
    simp only [List.map_cons, List.map_nil] at e3
    simp only [f__law_number, chk, runDef, m__law_number]
    by_cases c4 : q = 1
    · rw [if_pos c4] at e8
      simp [e1, c1, c2, e2, eqD_int, c3, l3, l6, e3, e4, e6, c4, e7, e8, finR_le]
    · rw [if_neg c4] at e8
      simp [e1, c1, c2, e2, eqD_int, c3, l3, l6, e3, e4, e6, c4, e7, e8, finR_le]
  · obtain ⟨d, o5, hx, h5, hd⟩ := fin (1 + s) o2 h2 (by omega) (by omega)
    obtain ⟨q, o6, e6, z, e7, e8⟩ := hx
    refine ⟨d, o5, fun sr => ?_, h5, hd⟩
    simp only [f__law_number, chk, runDef, m__law_number]
    by_cases c4 : q = 1
    · rw [if_pos c4] at e8
      simp [e1, c1, c2, e2, eqD_int, c3, l3, l6, e6, c4, e7, e8, finR_le]
    · rw [if_neg c4] at e8
      simp [e1, c1, c2, e2, eqD_int, c3, l3, l6, e6, c4, e7, e8, finR_le]
end K10

set_option exponentiation.threshold 20000
set_option linter.all false
set_option maxRecDepth 100000
set_option maxHeartbeats 2000000
namespace K10
open PySem PySem.Spec PyProof.Rows L2 Sim
theorem finX_le {n : Nat} {x : Exn} {st : Sto} (h : st.length ≤ n) : finX n x st = .exc x st := by
  unfold finX
  rw [List.take_of_length_le h]
  split <;> rfl
theorem seq_nx {a b : Sm} {σ σ1 : Sl} {st st1 : Sto} (h : a σ st = .nx σ1 st1) : sSeq a b σ st = b σ1 st1 := by
  show (a σ st).seq b = _
  rw [h]
  rfl
theorem def_rt {k n : Nat} {m : Sm} {as : List D} {d : D} {st st' : Sto} (hk : as.length = k) (h : m (as.map some ++ List.replicate (n - as.length) none) st = .rt d st') (hl : st'.length ≤ st.length) : chk k (runDef n m) as st = .ok d st' := by
  unfold chk
  rw [if_pos hk]
  unfold runDef
  rw [h]
  exact finR_le hl
theorem def_exc {k n : Nat} {m : Sm} {as : List D} {x : Exn} {σ : Sl} {st st' : Sto} (hk : as.length = k) (h : m (as.map some ++ List.replicate (n - as.length) none) st = .exc x σ st') (hl : st'.length ≤ st.length) : chk k (runDef n m) as st = .exc x st' := by
  unfold chk
  rw [if_pos hk]
  unfold runDef
  rw [h]
  exact finX_le hl
def fr (x : Rat) : D := .tup [.int x.num, .int x.den]
def Bd (n : Nat) (x : Rat) : Prop := x.num.natAbs < 2 ^ n ∧ x.den < 2 ^ n
theorem den_pos (x : Rat) : (1 : Int) ≤ (x.den : Int) := by have := x.den_nz; omega
theorem rat_eq (x : Rat) : (x.num : Rat) / (x.den : Rat) = x := by rw [← Rat.mkRat_eq_div, Rat.mkRat_self]
theorem den_ne (x : Rat) : (x.den : Rat) ≠ 0 := fun h => x.den_nz (Rat.natCast_eq_zero_iff.mp h)
theorem low_of {p q P Q : Int} (hq : q ≠ 0) (h1 : 1 ≤ Q) (h2 : Nat.gcd P.natAbs Q.natAbs = 1) (h : p * Q = P * q) : .tup [.int P, .int Q] = fr ((p : Rat) / (q : Rat)) ∧ ((p : Rat) / (q : Rat)).num = P ∧ ((((p : Rat) / (q : Rat)).den : Nat) : Int) = Q := by
  have nz : Q.toNat ≠ 0 := by omega
  have cp : P.natAbs.Coprime Q.toNat := by
    have : Q.toNat = Q.natAbs := by omega
    rw [this]; exact h2
  have e : (p : Rat) / (q : Rat) = ⟨P, Q.toNat, nz, cp⟩ := by
    rw [Rat.mk_eq_mkRat, Rat.mkRat_eq_div]
    have hQ : ((Q.toNat : Nat) : Rat) = (Q : Rat) := by
      rw [← Rat.intCast_natCast]
      congr 1
      omega
    rw [hQ]
    have a1 : (q : Rat) ≠ 0 := fun z => hq (Rat.intCast_eq_zero_iff.mp z)
    have a2 : (Q : Rat) ≠ 0 := fun z => (show Q ≠ 0 by omega) (Rat.intCast_eq_zero_iff.mp z)
    have a3 : (p : Rat) * (Q : Rat) = (P : Rat) * (q : Rat) := by rw [← Rat.intCast_mul, ← Rat.intCast_mul, h]
    grind
  have e2 : (((⟨P, Q.toNat, nz, cp⟩ : Rat).den : Nat) : Int) = Q := by show ((Q.toNat : Nat) : Int) = Q; omega
  rw [e]
  refine ⟨?_, rfl, e2⟩
  unfold fr
  rw [e2]
theorem low_fr (p q : Int) (hq : q ≠ 0) {a : Nat} (hb : q.natAbs < 2 ^ a) (ha : a ≤ 8000) {x : Rat} (hx : x = (p : Rat) / (q : Rat)) : (∀ st, f__law_low [.int p, .int q] st = .ok (fr x) st) ∧ (∀ st, f_ratio [.int p, .int q] st = .ok (fr x) st) ∧ x.num.natAbs ≤ p.natAbs ∧ x.den ≤ q.natAbs := by
  obtain ⟨P, Q, e1, g1, g2, g3, g4, g5, g6, g7, e2, key⟩ := low p q hq hb ha
  obtain ⟨z, z1, z2⟩ := low_of hq g1 g2 key
  rw [← hx] at z z1 z2
  rw [← z]
  exact ⟨e1, e2, by omega, by omega⟩
theorem Bd.up {n m : Nat} {x : Rat} (h : Bd n x) (hm : n ≤ m) : Bd m x :=
  ⟨Nat.lt_of_lt_of_le h.1 (Nat.pow_le_pow_right (by decide) hm), Nat.lt_of_lt_of_le h.2 (Nat.pow_le_pow_right (by decide) hm)⟩
theorem nlt {x y : Nat} {a b : Nat} (h1 : x < 2 ^ a) (h2 : y < 2 ^ b) : x * y < 2 ^ (a + b) := by
  rw [Nat.pow_add]
  exact Nat.mul_lt_mul'' h1 h2
section
variable {x y t : Rat} {n m k : Nat} (hx : Bd n x) (hy : Bd m y)
theorem fr0 (x : Rat) (st : Sto) : ixD (fr x) (.int 0) st = .ok (.int x.num) st := rfl
theorem fr1 (x : Rat) (st : Sto) : ixD (fr x) (.int 1) st = .ok (.int x.den) st := rfl
/-- p / q is the sum, the difference, the product -/
theorem sum_q : x + y = ((x.num * y.den + y.num * x.den : Int) : Rat) / ((x.den * y.den : Int) : Rat) := by
  have a1 := den_ne x
  have a2 := den_ne y
  conv => lhs; rw [← rat_eq x, ← rat_eq y]
  simp only [Rat.intCast_add, Rat.intCast_mul, Rat.intCast_natCast]
  grind
theorem sub_q : x - y = ((x.num * y.den - y.num * x.den : Int) : Rat) / ((x.den * y.den : Int) : Rat) := by
  have a1 := den_ne x
  have a2 := den_ne y
  conv => lhs; rw [← rat_eq x, ← rat_eq y]
  simp only [Rat.intCast_sub, Rat.intCast_mul, Rat.intCast_natCast]
  grind
theorem mul_q : x * y = ((x.num * y.num : Int) : Rat) / ((x.den * y.den : Int) : Rat) := by
  have a1 := den_ne x
  have a2 := den_ne y
  conv => lhs; rw [← rat_eq x, ← rat_eq y]
  simp only [Rat.intCast_mul, Rat.intCast_natCast]
  grind
theorem mla_q : t + x * y = ((t.num * (x.den * y.den) + x.num * y.num * t.den : Int) : Rat) / ((t.den * (x.den * y.den) : Int) : Rat) := by
  have a1 := den_ne x
  have a2 := den_ne y
  have a3 := den_ne t
  conv => lhs; rw [← rat_eq x, ← rat_eq y, ← rat_eq t]
  simp only [Rat.intCast_add, Rat.intCast_mul, Rat.intCast_natCast]
  grind
theorem q_ne (x y : Rat) : (x.den * y.den : Int) ≠ 0 := by
  have := den_pos x
  have := den_pos y
  exact Int.mul_ne_zero (by omega) (by omega)
include hx hy
theorem q_bd : (x.den * y.den : Int).natAbs < 2 ^ (n + m) := by
  rw [Int.natAbs_mul]
  exact nlt (by simpa using hx.2) (by simpa using hy.2)
theorem sum_fr (h : n + m ≤ 8000) : (∀ st, f__law_low [.int (x.num * y.den + y.num * x.den), .int (x.den * y.den)] st = .ok (fr (x + y)) st) ∧ (∀ st, f_ratio [.int (x.num * y.den + y.num * x.den), .int (x.den * y.den)] st = .ok (fr (x + y)) st) ∧ Bd (n + m + 1) (x + y) := by
  obtain ⟨e1, e2, h3, h4⟩ := low_fr (x.num * y.den + y.num * x.den) (x.den * y.den) (q_ne x y) (q_bd hx hy) h sum_q
  refine ⟨e1, e2, ?_, Nat.lt_of_le_of_lt h4 (Nat.lt_of_lt_of_le (q_bd hx hy) (Nat.pow_le_pow_right (by decide) (by omega)))⟩
  have b1 := nlt hx.1 hy.2
  have b2 := nlt hy.1 hx.2
  have b3 := Int.natAbs_add_le (x.num * y.den) (y.num * x.den)
  rw [Int.natAbs_mul, Int.natAbs_mul] at b3
  simp only [Int.natAbs_natCast] at b3
  rw [Nat.pow_succ]
  rw [Nat.add_comm m n] at b2
  omega
theorem sub_fr (h : n + m ≤ 8000) : (∀ st, f_ratio [.int (x.num * y.den - y.num * x.den), .int (x.den * y.den)] st = .ok (fr (x - y)) st) := (low_fr (x.num * y.den - y.num * x.den) (x.den * y.den) (q_ne x y) (q_bd hx hy) h sub_q).2.1
theorem mul_fr (h : n + m ≤ 8000) : (∀ st, f__law_low [.int (x.num * y.num), .int (x.den * y.den)] st = .ok (fr (x * y)) st) ∧ (∀ st, f_ratio [.int (x.num * y.num), .int (x.den * y.den)] st = .ok (fr (x * y)) st) ∧ Bd (n + m) (x * y) := by
  obtain ⟨e1, e2, h3, h4⟩ := low_fr (x.num * y.num) (x.den * y.den) (q_ne x y) (q_bd hx hy) h mul_q
  refine ⟨e1, e2, ?_, Nat.lt_of_le_of_lt h4 (q_bd hx hy)⟩
  rw [Int.natAbs_mul] at h3
  exact Nat.lt_of_le_of_lt h3 (nlt hx.1 hy.1)
end
theorem mI {i j : Int} {a b : Nat} (h1 : i.natAbs < 2 ^ a) (h2 : j.natAbs < 2 ^ b) (h : a + b ≤ 10000000) (st : Sto) : mulI (.int i) (.int j) st = .ok (.int (i * j)) st := mulI_int _ _ _ (mulB h1 h2 h)
theorem one_den {x : Rat} (h : (x.den : Int) = 1) : x = (x.num : Rat) := by
  have := rat_eq x
  have h2 : x.den = 1 := by omega
  rw [h2] at this
  rw [← this]
  grind
section
variable {x y t : Rat} {n m k : Nat} (hx : Bd n x) (hy : Bd m y) (h : n + m ≤ 8000)
include hx hy h
theorem law_add (st : Sto) : f__law_add [fr x, fr y] st = .ok (fr (x + y)) st := by
  obtain ⟨e1, _, _⟩ := sum_fr hx hy h
  have m1 := mI (j := y.den) hx.1 (by simpa using hy.2) (by omega)
  have m2 := mI (j := x.den) hy.1 (by simpa using hx.2) (by omega)
  have m3 := mI (i := x.den) (j := y.den) (by simpa using hx.2) (by simpa using hy.2) (by omega)
  have i1 := fr0 x
  have i2 := fr1 x
  have i3 := fr0 y
  have i4 := fr1 y
  have hs : (x.den : Int) = 1 → (y.den : Int) = 1 → D.tup [.int (x.num + y.num), .int 1] = fr (x + y) := by
    intro c1 c2
    have e : x + y = ((x.num + y.num : Int) : Rat) := by
      conv => lhs; rw [one_den c1, one_den c2]
      rw [Rat.intCast_add]
    unfold fr
    rw [e]
    rfl
  generalize fr x = fx at i1 i2 ⊢
  generalize fr y = fy at i3 i4 ⊢
  generalize fr (x + y) = fz at e1 hs ⊢
  generalize (x.den : Int) = xd at *
  generalize (y.den : Int) = yd at *
  generalize x.num = xn at *
  generalize y.num = yn at *
  unfold f__law_add
  refine def_rt rfl ?_ (Nat.le_refl _)
  show m__law_add [some fx, some fy] st = _
  unfold m__law_add
  by_cases c1 : xd = 1
  · by_cases c2 : yd = 1
    · have := hs c1 c2
      simp [i1, i2, i3, i4, eqD_int, decide_eq_true c1, decide_eq_true c2, two_le_line, this]
    · simp [i1, i2, i3, i4, eqD_int, decide_eq_true c1, decide_eq_false c2, m1, m2, m3, e1]
  · simp [i1, i2, i3, i4, eqD_int, decide_eq_false c1, m1, m2, m3, e1]
end
end K10

set_option exponentiation.threshold 20000
set_option linter.all false
set_option maxRecDepth 100000
set_option maxHeartbeats 2000000
namespace K10
open PySem PySem.Spec PyProof.Rows L2 Sim
section
variable {x y t : Rat} {n m k : Nat} (hx : Bd n x) (hy : Bd m y)
section
variable (h : n + m ≤ 8000)
include hx hy h
theorem law_mul (st : Sto) : f__law_mul [fr x, fr y] st = .ok (fr (x * y)) st := by
  obtain ⟨e1, _, _⟩ := mul_fr hx hy h
  have m1 := mI hx.1 hy.1 (by omega)
  have m3 := mI (i := x.den) (j := y.den) (by simpa using hx.2) (by simpa using hy.2) (by omega)
  have i1 := fr0 x
  have i2 := fr1 x
  have i3 := fr0 y
  have i4 := fr1 y
  have hs : (x.den : Int) = 1 → (y.den : Int) = 1 → D.tup [.int (x.num * y.num), .int 1] = fr (x * y) := by
    intro c1 c2
    have e : x * y = ((x.num * y.num : Int) : Rat) := by
      conv => lhs; rw [one_den c1, one_den c2]
      rw [Rat.intCast_mul]
    unfold fr
    rw [e]
    rfl
  generalize fr x = fx at i1 i2 ⊢
  generalize fr y = fy at i3 i4 ⊢
  generalize fr (x * y) = fz at e1 hs ⊢
  generalize (x.den : Int) = xd at *
  generalize (y.den : Int) = yd at *
  generalize x.num = xn at *
  generalize y.num = yn at *
  unfold f__law_mul
  refine def_rt rfl ?_ (Nat.le_refl _)
  show m__law_mul [some fx, some fy] st = _
  unfold m__law_mul
  by_cases c1 : xd = 1
  · by_cases c2 : yd = 1
    · have := hs c1 c2
      simp [i1, i2, i3, i4, eqD_int, decide_eq_true c1, decide_eq_true c2, two_le_line, m1, this]
    · simp [i1, i2, i3, i4, eqD_int, decide_eq_true c1, decide_eq_false c2, m1, m3, e1]
  · simp [i1, i2, i3, i4, eqD_int, decide_eq_false c1, m1, m3, e1]
end
theorem num0 {x : Rat} : (x.num = 0) ↔ x = 0 := Rat.num_eq_zero
theorem add_product (ht : Bd k t) (hx : Bd n x) (hy : Bd m y) (h : k + (n + m) ≤ 8000) (st : Sto) : f_add_product [fr t, fr x, fr y] st = .ok (fr (t + x * y)) st := by
  have hq : ((t.den : Int) * (x.den * y.den)).natAbs < 2 ^ (k + (n + m)) := by
    rw [Int.natAbs_mul]
    exact nlt (by simpa using ht.2) (q_bd hx hy)
  have hq0 : ((t.den : Int) * (x.den * y.den)) ≠ 0 := Int.mul_ne_zero (by have := den_pos t; omega) (q_ne x y)
  obtain ⟨_, e1, _, _⟩ := low_fr (t.num * (x.den * y.den) + x.num * y.num * t.den) (t.den * (x.den * y.den)) hq0 hq h mla_q
  have m3 := mI (i := x.den) (j := y.den) (by simpa using hx.2) (by simpa using hy.2) (by omega)
  have m4 := mI (i := t.num) (j := (x.den * y.den : Int)) ht.1 (q_bd hx hy) (by omega)
  have m5 := mI hx.1 hy.1 (by omega)
  have m6 := mI (i := x.num * y.num) (j := t.den) (a := n + m) (b := k) (by rw [Int.natAbs_mul]; exact nlt hx.1 hy.1) (by simpa using ht.2) (by omega)
  have m7 := mI (i := t.den) (j := (x.den * y.den : Int)) (by simpa using ht.2) (q_bd hx hy) (by omega)
  have i0 := fr0 t
  have i0' := fr1 t
  have i1 := fr0 x
  have i2 := fr1 x
  have i3 := fr0 y
  have i4 := fr1 y
  have z1 : x.num = 0 → fr t = fr (t + x * y) := fun h => by rw [num0.mp h]; congr 1; grind
  have z2 : y.num = 0 → fr t = fr (t + x * y) := fun h => by rw [num0.mp h]; congr 1; grind
  generalize fr t = ft at i0 i0' z1 z2 ⊢
  generalize fr x = fx at i1 i2 ⊢
  generalize fr y = fy at i3 i4 ⊢
  generalize fr (t + x * y) = fz at e1 z1 z2 ⊢
  generalize (x.den : Int) = xd at *
  generalize (y.den : Int) = yd at *
  generalize (t.den : Int) = td at *
  generalize x.num = xn at *
  generalize y.num = yn at *
  unfold f_add_product
  refine def_rt rfl ?_ (Nat.le_refl _)
  show m_add_product [some ft, some fx, some fy, none] st = _
  unfold m_add_product
  by_cases c1 : xn = 0
  · have := z1 c1
    simp [i1, eqD_int, decide_eq_true c1, this]
  · by_cases c2 : yn = 0
    · have := z2 c2
      simp [i1, i3, eqD_int, decide_eq_false c1, decide_eq_true c2, this]
    · simp [i0, i0', i1, i2, i3, i4, eqD_int, decide_eq_false c1, decide_eq_false c2, m3, m4, m5, m6, m7, e1]
theorem bd_add (hx : Bd n x) (hy : Bd m y) (h : n + m ≤ 8000) : Bd (n + m + 1) (x + y) := (sum_fr hx hy h).2.2
theorem bd_mul (hx : Bd n x) (hy : Bd m y) (h : n + m ≤ 8000) : Bd (n + m) (x * y) := (mul_fr hx hy h).2.2
theorem bd_neg (hx : Bd n x) : Bd n (-x) := by
  refine ⟨?_, ?_⟩
  · rw [Rat.neg_num, Int.natAbs_neg]; exact hx.1
  · rw [Rat.neg_den]; exact hx.2
end
theorem i20 (a b : D) (st : Sto) : ixD (.tup [a, b]) (.int 0) st = .ok a st := rfl
theorem i21 (a b : D) (st : Sto) : ixD (.tup [a, b]) (.int 1) st = .ok b st := rfl
theorem eqD_tup2 (a b c d : Int) (st : Sto) : eqD (.tup [.int a, .int b]) (.tup [.int c, .int d]) st = .ok (.bl (decide (a = c) && decide (b = d))) st := by
  show Res.ok (D.bl ((a == c) && ((b == d) && true))) st = _
  rw [Bool.and_true]
  rfl
end K10

set_option exponentiation.threshold 20000
set_option linter.all false
set_option maxRecDepth 100000
set_option maxHeartbeats 4000000
namespace K10
open PySem PySem.Spec PyProof.Rows L2 Sim
/-! ### fractions and what is none -/
theorem isT (ds : List D) (st : Sto) : isiD (isB "tuple" clsL) (.tup ds) st = .ok (.bl true) st := rfl
theorem lenT (ds : List D) (st : Sto) : lenD [.tup ds] st = .ok (.int ds.length) st := rfl
def Pt (d : D) (b1 b2 : Bool) : Prop := ∀ st, isiD (isB "int" clsL) d st = .ok (.bl b1) st ∧ isiD (isB "bool" clsL) d st = .ok (.bl b2) st
theorem pt_int (i : Int) : Pt (.int i) true false := fun _ => ⟨rfl, rfl⟩
theorem pt_bl (b : Bool) : Pt (.bl b) true true := fun _ => ⟨rfl, rfl⟩
theorem pt_non : Pt .non false false := fun _ => ⟨rfl, rfl⟩
theorem pt_str (s : Str) : Pt (.str s) false false := fun _ => ⟨rfl, rfl⟩
theorem pt_tup (ds : List D) : Pt (.tup ds) false false := fun _ => ⟨rfl, rfl⟩
theorem isf_fr (x : Rat) (st : Sto) : f_is_fraction [fr x] st = .ok (.bl true) st := by
  have hl : ∀ st, lenD [.tup [.int x.num, .int x.den]] st = .ok (.int 2) st := fun st => rfl
  have d1 := fun i st => (pt_int i st).1
  have d2 := fun i st => (pt_int i st).2
  have eg : ∀ st, gcdD [.int x.num, .int x.den] st = .ok (.int 1) st := fun st => by
    have z : Nat.gcd x.num.natAbs (x.den : Int).natAbs = 1 := by simpa using x.reduced
    rw [gcdD_int, z]
    rfl
  have hp := den_pos x
  unfold fr
  generalize (x.den : Int) = y at *
  unfold f_is_fraction
  refine def_rt rfl ?_ (Nat.le_refl _)
  show m_is_fraction [some (.tup [.int x.num, .int y]), none] st = _
  unfold m_is_fraction
  simp [-gcdD_int, isT, hl, neD_int, Sim.forM, inTurn, d1, d2, i20, i21, hp, eg, eqD_int]
/-! ### the drawn ones -/
theorem fr_of {d : D} (h : Fr 10000000 d) : ∃ x : Rat, d = fr x ∧ Bd 24 x := by
  obtain ⟨P, Q, e, q1, q2, q3, q4⟩ := h
  have cp : P.natAbs.Coprime Q.toNat := by
    have : Q.toNat = Q.natAbs := by omega
    rw [this]; exact q4
  have t : (10000000 : Nat) < 2 ^ 24 := by decide
  refine ⟨⟨P, Q.toNat, by omega, cp⟩, ?_, by show P.natAbs < _; omega, by show Q.toNat < _; omega⟩
  rw [e]
  unfold fr
  have : ((Q.toNat : Nat) : Int) = Q := by omega
  show _ = D.tup [.int P, .int ((Q.toNat : Nat) : Int)]
  rw [this]
theorem num {o : Option O} (h : BInv o) : ∃ (x : Rat) (o' : Option O), (∀ sr : Sto, f__law_number [.ref 0] (o :: sr) = .ok (fr x) (o' :: sr)) ∧ BInv o' ∧ Bd 24 x := by
  obtain ⟨d, o', e, hb, hf⟩ := number h
  obtain ⟨x, rfl, hx⟩ := fr_of hf
  exact ⟨x, o', e, hb, hx⟩
def mkf (p : Int) (q : Nat) (h : q ≠ 0 := by decide) (c : p.natAbs.Coprime q := by decide) : Rat := ⟨p, q, h, c⟩
theorem full {o : Option O} (h : BInv o) : ∃ (x : Rat) (o' : Option O), (∀ sr : Sto, f__law_full [.ref 0] (o :: sr) = .ok (fr x) (o' :: sr)) ∧ BInv o' ∧ Bd 24 x := by
  obtain ⟨x, o1, e1, b1, hx⟩ := num h
  obtain ⟨d, hd, o2, e2, b2⟩ := of_lst b1 (ds := [.tup [.int 1, .int 1], .tup [.int (-1), .int 1], .tup [.int 1, .int 2], .tup [.int (-3), .int 1], .tup [.int 2, .int 1]]) (by simp) (by simp)
  have hd2 : ∃ y : Rat, d = fr y ∧ Bd 24 y := by
    simp only [List.mem_cons, List.not_mem_nil, or_false] at hd
    rcases hd with rfl | rfl | rfl | rfl | rfl
    · exact ⟨mkf 1 1, rfl, by decide, by decide⟩
    · exact ⟨mkf (-1) 1, rfl, by decide, by decide⟩
    · exact ⟨mkf 1 2, rfl, by decide, by decide⟩
    · exact ⟨mkf (-3) 1, rfl, by decide, by decide⟩
    · exact ⟨mkf 2 1, rfl, by decide, by decide⟩
  obtain ⟨y, rfl, hy⟩ := hd2
  have i1 := fr0 x
  by_cases c : x.num = 0
  · refine ⟨y, o2, fun sr => ?_, b2, hy⟩
    generalize fr x = fx at i1 e1
    generalize fr y = fy at e2 ⊢
    generalize x.num = xn at *
    unfold f__law_full
    refine def_rt rfl ?_ (by simp)
    show m__law_full [some (.ref 0), none] (o :: sr) = _
    unfold m__law_full
    simp [e1, i1, neD_int, decide_eq_true c, two_le_line, mkF, le_line, e2]
  · refine ⟨x, o1, fun sr => ?_, b1, hx⟩
    generalize fr x = fx at i1 e1 ⊢
    generalize x.num = xn at *
    unfold f__law_full
    refine def_rt rfl ?_ (by simp)
    show m__law_full [some (.ref 0), none] (o :: sr) = _
    unfold m__law_full
    simp [e1, i1, neD_int, decide_eq_false c]
end K10

set_option exponentiation.threshold 20000
set_option linter.all false
set_option maxRecDepth 100000
set_option maxHeartbeats 4000000
namespace K10
open PySem PySem.Spec PyProof.Rows L2 Sim
/-! ### loops over numbers -/
def lp : List Rat → Option Nat
  | [] => none
  | x :: r => if x = 0 then (lp r).map (· + 1) else some 0
def fb : List Bool → Option Nat
  | [] => none
  | b :: r => if b = true then (fb r).map (· + 1) else some 0
def oD : Option Nat → D
  | none => .non
  | some i => .int (i : Nat)
theorem enumD_c (k : Nat) (d : D) (ds : List D) : enumD k (d :: ds) = .tup [.int (k : Nat), d] :: enumD (k + 1) ds := rfl
theorem lp_c (x : Rat) (r : List Rat) : lp (x :: r) = if x = 0 then (lp r).map (· + 1) else some 0 := rfl
theorem fb_c (b : Bool) (r : List Bool) : fb (b :: r) = if b = true then (fb r).map (· + 1) else some 0 := rfl
theorem forM_c (f : D → Sl → Sto → RS) (d : D) (ds : List D) (σ : Sl) (st : Sto) : Sim.forM f (d :: ds) σ st = (match f d σ st with
    | .nx σ' st' => Sim.forM f ds σ' st'
    | .ct σ' st' => Sim.forM f ds σ' st'
    | .bk σ' st' => .nx σ' st'
    | .rt d' st' => .rt d' st'
    | .exc x σ' st' => .exc x σ' st'
    | .bad => .bad) := rfl
inductive Its : List Bool → List D → Prop
  | nil : Its [] []
  | cons {b : Bool} {d : D} {bs : List Bool} {ds : List D} (h : ∀ st, f_is_fraction [d] st = .ok (.bl b) st) (t : Its bs ds) : Its (b :: bs) (d :: ds)
theorem Its.len {bs : List Bool} {ds : List D} (h : Its bs ds) : bs.length = ds.length := by
  induction h with
  | nil => rfl
  | cons _ _ ih => simp [ih]
abbrev lpB : Sm := (sIf (tOf (eBin neD (eBin ixD (eVar 2) (eC (.int 0))) (eC (.int 0)))) (sRet (eVar 1)) sNil)
abbrev g12 : Gm := (gT 2 (gsCons (gN 1) (gsCons (gN 2) gsNil)))
theorem lpLoop (x : D) (st : Sto) : ∀ (xs : List Rat) (k : Nat) (o1 o2 : Option D), (∀ i, lp xs = some i → Sim.forM (inTurn g12 lpB) (enumD k (xs.map fr)) [some x, o1, o2] st = .rt (.int ((k + i : Nat) : Int)) st) ∧ (lp xs = none → ∃ o1' o2', Sim.forM (inTurn g12 lpB) (enumD k (xs.map fr)) [some x, o1, o2] st = .nx [some x, o1', o2'] st)
  | [], k, o1, o2 => ⟨fun i h => by simp [lp] at h, fun _ => ⟨o1, o2, rfl⟩⟩
  | y :: xs, k, o1, o2 => by
    obtain ⟨h1, h2⟩ := lpLoop x st xs (k + 1) (some (.int (k : Nat))) (some (fr y))
    have i1 := fr0 y
    have hz : y.num = 0 ↔ y = 0 := num0
    by_cases c : y = 0
    · have c' : y.num = 0 := hz.mpr c
      have st1 : Sim.forM (inTurn g12 lpB) (enumD k ((y :: xs).map fr)) [some x, o1, o2] st = Sim.forM (inTurn g12 lpB) (enumD (k + 1) (xs.map fr)) [some x, some (.int (k : Nat)), some (fr y)] st := by
        rw [List.map_cons, enumD_c, forM_c]
        generalize fr y = fy at i1 ⊢
        generalize y.num = yn at *
        simp [inTurn, i1, neD_int, decide_eq_true c']
      have e : lp (y :: xs) = (lp xs).map (· + 1) := by rw [lp_c, if_pos c]
      refine ⟨fun i h => ?_, fun h => ?_⟩
      · rw [e] at h
        obtain ⟨j, hj, rfl⟩ := Option.map_eq_some_iff.mp h
        rw [st1, h1 j hj]
        congr 2
        omega
      · rw [e] at h
        rw [st1]
        exact h2 (Option.map_eq_none_iff.mp h)
    · have c' : ¬ y.num = 0 := fun z => c (hz.mp z)
      have e : lp (y :: xs) = some 0 := by rw [lp_c, if_neg c]
      refine ⟨fun i h => ?_, fun h => ?_⟩
      · rw [e] at h
        cases h
        rw [List.map_cons, enumD_c, forM_c]
        generalize fr y = fy at i1 ⊢
        generalize y.num = yn at *
        simp [inTurn, i1, neD_int, decide_eq_false c']
      · rw [e] at h; cases h
theorem least (xs : List Rat) (st : Sto) (d : D) (h : d = .lst (xs.map fr) ∨ d = .tup (xs.map fr)) : f_least_place [d] st = .ok (oD (lp xs)) st := by
  obtain ⟨h1, h2⟩ := lpLoop d st xs 0 none none
  unfold f_least_place
  refine def_rt rfl ?_ (Nat.le_refl _)
  show m_least_place [some d, none, none] st = _
  unfold m_least_place
  have hi : ∀ σ : Sl, σ[0]? = some (some d) → iEnum2M (aCons (eVar 0) aNil) σ st = .ok (enumD 0 (xs.map fr)) st := fun σ hσ => by
    rcases h with rfl | rfl <;> simp [hσ]
  cases e : lp xs with
  | none =>
    obtain ⟨o1, o2, q⟩ := h2 e
    show (sSeq (sFor (iEnum2M (aCons (eVar 0) aNil)) g12 lpB) (sRet (eC .non))) _ _ = _
    refine (seq_nx (σ1 := [some d, o1, o2]) (st1 := st) ?_).trans rfl
    show ((iEnum2M (aCons (eVar 0) aNil) [some d, none, none] st).toRS _ fun items st1 => Sim.forM (inTurn g12 lpB) items _ st1) = _
    rw [hi _ rfl]
    exact q
  | some i =>
    have q := h1 i e
    show (sSeq (sFor (iEnum2M (aCons (eVar 0) aNil)) g12 lpB) (sRet (eC .non))) _ _ = _
    show (((iEnum2M (aCons (eVar 0) aNil) [some d, none, none] st).toRS _ fun items st1 => Sim.forM (inTurn g12 lpB) items _ st1)).seq _ = _
    rw [hi _ rfl]
    show (Sim.forM (inTurn g12 lpB) (enumD 0 (xs.map fr)) [some d, none, none] st).seq _ = _
    rw [q, Nat.zero_add]
    rfl
abbrev fbB : Sm := (sIf (Sim.tNot (tOf (eCall f_is_fraction (aCons (eVar 2) aNil) []))) (sRet (eVar 1)) sNil)
theorem fbLoop (x : D) (st : Sto) : ∀ (bs : List Bool) (ds : List D) (k : Nat) (o1 o2 : Option D), Its bs ds → (∀ i, fb bs = some i → Sim.forM (inTurn g12 fbB) (enumD k ds) [some x, o1, o2] st = .rt (.int ((k + i : Nat) : Int)) st) ∧ (fb bs = none → ∃ o1' o2', Sim.forM (inTurn g12 fbB) (enumD k ds) [some x, o1, o2] st = .nx [some x, o1', o2'] st)
  | _, _, k, o1, o2, .nil => ⟨fun i h => by simp [fb] at h, fun _ => ⟨o1, o2, rfl⟩⟩
  | _, _, k, o1, o2, .cons (b := b) (d := d) (bs := bs) (ds := ds) hd t => by
    obtain ⟨h1, h2⟩ := fbLoop x st bs ds (k + 1) (some (.int (k : Nat))) (some d) t
    have i1 := hd
    cases b with
    | true =>
      have st1 : Sim.forM (inTurn g12 fbB) (enumD k (d :: ds)) [some x, o1, o2] st = Sim.forM (inTurn g12 fbB) (enumD (k + 1) ds) [some x, some (.int (k : Nat)), some d] st := by
        rw [enumD_c, forM_c]
        simp [inTurn, i1]
      have e : fb (true :: bs) = (fb bs).map (· + 1) := by rw [fb_c, if_pos rfl]
      refine ⟨fun i h => ?_, fun h => ?_⟩
      · rw [e] at h
        obtain ⟨j, hj, rfl⟩ := Option.map_eq_some_iff.mp h
        rw [st1, h1 j hj]
        congr 2
        omega
      · rw [e] at h
        rw [st1]
        exact h2 (Option.map_eq_none_iff.mp h)
    | false =>
      have e : fb (false :: bs) = some 0 := by rw [fb_c, if_neg (by simp)]
      refine ⟨fun i h => ?_, fun h => ?_⟩
      · rw [e] at h
        cases h
        rw [enumD_c, forM_c]
        simp [inTurn, i1]
      · rw [e] at h; cases h
theorem firstno {bs : List Bool} {ds : List D} (hi : Its bs ds) (st : Sto) (d : D) (h : d = .lst ds ∨ d = .tup ds) : f_first_no_fraction [d] st = .ok (oD (fb bs)) st := by
  obtain ⟨h1, h2⟩ := fbLoop d st bs ds 0 none none hi
  unfold f_first_no_fraction
  refine def_rt rfl ?_ (Nat.le_refl _)
  show m_first_no_fraction [some d, none, none] st = _
  unfold m_first_no_fraction
  have hi : ∀ σ : Sl, σ[0]? = some (some d) → iEnum2M (aCons (eVar 0) aNil) σ st = .ok (enumD 0 ds) st := fun σ hσ => by
    rcases h with rfl | rfl <;> simp [hσ]
  cases e : fb bs with
  | none =>
    obtain ⟨o1, o2, q⟩ := h2 e
    show (sSeq (sFor (iEnum2M (aCons (eVar 0) aNil)) g12 fbB) (sRet (eC .non))) _ _ = _
    refine (seq_nx (σ1 := [some d, o1, o2]) (st1 := st) ?_).trans rfl
    show ((iEnum2M (aCons (eVar 0) aNil) [some d, none, none] st).toRS _ fun items st1 => Sim.forM (inTurn g12 fbB) items _ st1) = _
    rw [hi _ rfl]
    exact q
  | some i =>
    have q := h1 i e
    show (sSeq (sFor (iEnum2M (aCons (eVar 0) aNil)) g12 fbB) (sRet (eC .non))) _ _ = _
    show (((iEnum2M (aCons (eVar 0) aNil) [some d, none, none] st).toRS _ fun items st1 => Sim.forM (inTurn g12 fbB) items _ st1)).seq _ = _
    rw [hi _ rfl]
    show (Sim.forM (inTurn g12 fbB) (enumD 0 ds) [some d, none, none] st).seq _ = _
    rw [q, Nat.zero_add]
    rfl
theorem isord (i : Int) (st : Sto) : f_is_order [.int i] st = .ok (.bl (decide (2 ≤ i ∧ i ≤ 24))) st := by
  have h1 : isiD (isB "int" clsL) (.int i) st = .ok (.bl true) st := rfl
  have h2 : isiD (isB "bool" clsL) (.int i) st = .ok (.bl false) st := rfl
  have w : f_is_whole [.int i] st = .ok (.bl true) st := by
    unfold f_is_whole
    refine def_rt rfl ?_ (Nat.le_refl _)
    show m_is_whole [some (.int i)] st = _
    unfold m_is_whole
    simp [h1, h2]
  unfold f_is_order
  refine def_rt rfl ?_ (Nat.le_refl _)
  show m_is_order [some (.int i)] st = _
  unfold m_is_order
  by_cases c1 : 2 ≤ i
  · by_cases c2 : i ≤ 24
    · simp [w, c1, c2]
    · simp [w, c1, c2]
  · simp [w, c1]
/-- no order -/
theorem nord {d : D} {b1 b2 : Bool} (h : Pt d b1 b2) (hb : (b1 && !b2) = false) (st : Sto) : f_is_order [d] st = .ok (.bl false) st := by
  have h1 := (h st).1
  have h2 := (h st).2
  have w : f_is_whole [d] st = .ok (.bl false) st := by
    unfold f_is_whole
    refine def_rt rfl ?_ (Nat.le_refl _)
    show m_is_whole [some d] st = _
    unfold m_is_whole
    cases b1 <;> cases b2 <;> first | (exact absurd hb (by decide)) | simp [h1, h2]
  unfold f_is_order
  refine def_rt rfl ?_ (Nat.le_refl _)
  show m_is_order [some d] st = _
  unfold m_is_order
  simp [w]
end K10

set_option exponentiation.threshold 20000
set_option linter.all false
set_option maxRecDepth 100000
set_option maxHeartbeats 4000000
namespace K10
open PySem PySem.Spec PyProof.Rows L2 Sim
/-! ### stores without references -/
def NR (d : D) : Prop := ∀ n, D.und n d = true
def NRs (ds : List D) : Prop := ∀ n, D.unds n ds = true
def NoR (st : Sto) : Prop := ∀ n, stoBelow n st = true
theorem NRs.nil : NRs [] := fun _ => rfl
theorem NRs.cons {d : D} {ds : List D} (h : NR d) (t : NRs ds) : NRs (d :: ds) := fun n => by
  show (D.und n d && D.unds n ds) = true
  rw [h n, t n]
  rfl
theorem NRs.of {ds : List D} (h : ∀ d ∈ ds, NR d) : NRs ds := by
  induction ds with
  | nil => exact .nil
  | cons d ds ih => exact .cons (h d List.mem_cons_self) (ih fun e he => h e (List.mem_cons_of_mem _ he))
theorem nr_fr (x : Rat) : NR (fr x) := fun _ => rfl
theorem nrs_fr (xs : List Rat) : NRs (xs.map fr) := .of fun d hd => by
  obtain ⟨x, _, rfl⟩ := List.mem_map.mp hd
  exact nr_fr x
theorem nrs_ints (xs : List Int) : NRs (xs.map .int) := .of fun d hd => by
  obtain ⟨x, _, rfl⟩ := List.mem_map.mp hd
  exact fun _ => rfl
theorem nr_bag {o : Option O} (h : BInv o) : NoR [o] := fun n => by
  obtain ⟨xs, i, cur, seed, cnt, rfl, _⟩ := h.ex
  show ((D.unds n (bagL xs i cur seed cnt)) && true) = true
  rw [Bool.and_true]
  exact NRs.cons (fun n => by simpa [D.und] using nrs_ints xs n) (.cons (fun _ => rfl) (.cons (fun _ => rfl) (.cons (fun _ => rfl) (.cons (fun _ => rfl) .nil)))) n
theorem NoR.app {st st' : Sto} (h : NoR st) (h' : NoR st') : NoR (st ++ st') := fun n => by
  have key : ∀ st : Sto, stoBelow n st = true → stoBelow n (st ++ st') = true := by
    intro st
    induction st with
    | nil => exact fun _ => h' n
    | cons a r ih =>
      intro z
      cases a with
      | none => exact ih z
      | some o =>
        cases o with
        | lst ds =>
          have z : (D.unds n ds && stoBelow n r) = true := z
          obtain ⟨z1, z2⟩ := Bool.and_eq_true_iff.mp z
          show (D.unds n ds && stoBelow n (r ++ st')) = true
          rw [z1, ih z2]
          rfl
        | ins C fs =>
          have z : (D.undF n fs && stoBelow n r) = true := z
          obtain ⟨z1, z2⟩ := Bool.and_eq_true_iff.mp z
          show (D.undF n fs && stoBelow n (r ++ st')) = true
          rw [z1, ih z2]
          rfl
  exact key st (h n)
theorem nr_lst {ds : List D} (h : NRs ds) : NoR [some (.lst ds)] := fun n => by
  show (D.unds n ds && true) = true
  rw [h n]
  rfl
/-! ### the last object of the store -/
theorem last_get (st : Sto) (x : Option O) : (st ++ [x])[st.length]? = some x := by simp
theorem last_set (st : Sto) (x y : Option O) : (st ++ [x]).set st.length y = st ++ [y] := by
  rw [List.set_append_right _ _ (Nat.le_refl _)]
  simp
theorem setF_last {cs : List Str} {C f : Str} {v : D} {fs : List (Str × D)} {st : Sto} (h : C ∈ cs) (hl : fs.length < 1000) : setF cs f (.ref st.length) v (st ++ [some (.ins C fs)]) = some (st ++ [some (.ins C (putFD f v fs))]) := by
  unfold setF
  simp only [last_get, if_pos (show C ∈ cs ∧ fs.length < 1000 from ⟨h, hl⟩), last_set]
theorem attD_last {C f : Str} {v : D} {fs : List (Str × D)} {st : Sto} (h : fs.lookup f = some v) : attD f (.ref st.length) (st ++ [some (.ins C fs)]) = .ok v (st ++ [some (.ins C fs)]) := by
  unfold attD
  simp only [last_get, h]
theorem finR_cut {d : D} {st j : Sto} (h : NR d) (hs : NoR st) : finR st.length d (st ++ j) = .ok d st := by
  unfold finR
  by_cases c : (st ++ j).length ≤ st.length
  · rw [if_pos c]
    have : j = [] := by
      rw [List.length_append] at c
      exact List.eq_nil_of_length_eq_zero (by omega)
    rw [this, List.append_nil]
  · have q : (D.und st.length d && stoBelow st.length ((st ++ j).take st.length)) = true := by
      rw [List.take_left, h, hs]
      rfl
    rw [if_neg c, if_pos q, List.take_left]
theorem frz_last {C : Str} {fs : List (Str × D)} {st : Sto} {m : Em} {σ : Sl} (e : m σ st = .ok (.ref st.length) (st ++ [some (.ins C fs)])) (hd : NR (.ins C fs)) (hs : NoR st) : eFrz m σ st = .ok (.ins C fs) st := by
  unfold eFrz
  rw [e]
  have f : frzD (.ref st.length) (st ++ [some (.ins C fs)]) = .ok (.ins C fs) (st ++ [none]) := by
    unfold frzD
    simp only [last_get, last_set]
  simp only [f]
  exact finR_cut hd hs
/-! ### what is like a list -/
structure Sq (d : D) (ds : List D) (st : Sto) : Prop where
  len : ∀ x, lenD [d] (st ++ x) = .ok (.int ds.length) (st ++ x)
  ist : ∀ x, isiD (isB2 "list" "tuple" clsL) d (st ++ x) = .ok (.bl true) (st ++ x)
  lst : ∀ x, ds.length ≤ 10000 → listD false [d] (st ++ x) = .ok (.lst ds) (st ++ x)
  brw : ∀ x f r, atomD r = true → (∀ s, f [.lst ds] s = .ok r s) → (∀ s, f [.tup ds] s = .ok r s) → Sim.brw f [d] (st ++ x) = .ok r (st ++ x)
theorem sq_lst (ds : List D) (st : Sto) : Sq (.lst ds) ds st :=
  ⟨fun _ => rfl, fun _ => rfl, fun x h => by show mkL false ds _ = _; exact mkF _ h _, fun x f r _ h1 _ => by
    unfold Sim.brw
    rw [if_neg (by simp [isRef])]
    exact h1 _⟩
theorem sq_tup (ds : List D) (st : Sto) : Sq (.tup ds) ds st :=
  ⟨fun _ => rfl, fun _ => rfl, fun x h => by show mkL false ds _ = _; exact mkF _ h _, fun x f r _ _ h2 => by
    unfold Sim.brw
    rw [if_neg (by simp [isRef])]
    exact h2 _⟩
theorem sq_ref {n : Nat} {ds : List D} {st : Sto} (h : st[n]? = some (some (.lst ds))) (hn : NRs ds) : Sq (.ref n) ds st := by
  have h' : ∀ x : Sto, (st ++ x)[n]? = some (some (.lst ds)) := fun x => by
    have hl : n < st.length := by
      obtain ⟨z, _⟩ := List.getElem?_eq_some_iff.mp h
      exact z
    rw [List.getElem?_append_left hl, h]
  have hi : ∀ x : Sto, itemsOf (.ref n) (st ++ x) = some ds := fun x => by
    unfold itemsOf
    simp only [h' x]
  refine ⟨fun x => ?_, fun x => ?_, fun x hl => ?_, fun x f r ha h1 _ => ?_⟩
  · unfold lenD
    simp only [hi x]
  · unfold isiD tgOf
    simp only [h' x]
    rfl
  · unfold listD
    simp only [hi x]
    exact mkF _ hl _
  · unfold Sim.brw
    have hp : [D.ref n].map (peek (st ++ x)) = [.lst ds] := by
      unfold peek
      simp only [List.map_cons, List.map_nil, h' x]
    have hu : D.unds 0 [.lst ds] = true := by
      show (D.und 0 (.lst ds) && D.unds 0 []) = true
      have : D.und 0 (.lst ds) = true := by simpa [D.und] using hn 0
      rw [this]
      rfl
    rw [if_pos (by simp [isRef]), hp, if_pos hu, h1 []]
    simp only [ha, if_true]
end K10

set_option exponentiation.threshold 20000
set_option linter.all false
set_option maxRecDepth 100000
set_option maxHeartbeats 4000000
namespace K10
open PySem PySem.Spec PyProof.Rows L2 Sim
/-! ### rows are made -/
def rowF (xs : List Rat) : List (Str × D) := [("_numbers", .lst (xs.map fr)), ("order", .int ((xs.length : Nat) - 1)), ("height", oD (lp xs))]
def rowD (xs : List Rat) : D := .ins "Row" (rowF xs)
theorem def_nx {k n : Nat} {m : Sm} {as : List D} {σ : Sl} {st st' : Sto} (hk : as.length = k) (h : m (as.map some ++ List.replicate (n - as.length) none) st = .nx σ st') (hl : st'.length ≤ st.length) : chk k (runDef n m) as st = .ok .non st' := by
  unfold chk
  rw [if_pos hk]
  unfold runDef
  rw [h]
  exact finR_le hl
def xFra (v : D) : Exn := ⟨"InvalidFraction", [("code", .str "InvalidFraction"), ("at", v)]⟩
def xOrd (v : D) : Exn := ⟨"InvalidOrder", [("code", .str "InvalidOrder"), ("value", v)]⟩
def xNum (v : D) : Exn := ⟨"InvalidNumber", [("code", .str "InvalidNumber"), ("value", v)]⟩
def xPla (v : D) : Exn := ⟨"InvalidPlace", [("code", .str "InvalidPlace"), ("value", v)]⟩
def xLow (v w : D) : Exn := ⟨"OrderTooLow", [("code", .str "OrderTooLow"), ("wanted", w), ("have", v)]⟩
def xUnl (v w : D) : Exn := ⟨"UnlikeOrders", [("code", .str "UnlikeOrders"), ("other", w), ("one", v)]⟩
theorem ra_fra {ma : Am} {σ : Sl} {st : Sto} {d : D} (h : ma σ st = .ok [d] st) : sRaise "InvalidFraction" tp_InvalidFraction 1 ma σ st = .exc (xFra d) σ st := by
  unfold sRaise
  rw [h]
  rfl
theorem ra_ord {ma : Am} {σ : Sl} {st : Sto} {d : D} (h : ma σ st = .ok [d] st) : sRaise "InvalidOrder" tp_InvalidOrder 1 ma σ st = .exc (xOrd d) σ st := by
  unfold sRaise
  rw [h]
  rfl
theorem ra_pla {ma : Am} {σ : Sl} {st : Sto} {d : D} (h : ma σ st = .ok [d] st) : sRaise "InvalidPlace" tp_InvalidPlace 1 ma σ st = .exc (xPla d) σ st := by
  unfold sRaise
  rw [h]
  rfl
theorem notN_oD (o : Option Nat) (st : Sto) : notN (oD o) .non st = .ok (.bl o.isSome) st := by cases o <;> rfl
section
variable {d : D} {ds : List D} {bs : List Bool} {st : Sto} (q : Sq d ds st) (hi : Its bs ds) (x : Sto)
include q hi
theorem chk_ok {a N : Int} (hN : N = (ds.length : Nat) + a) (h1 : 2 ≤ N) (h2 : N ≤ 24) (hb : fb bs = none) : f_check_numbers [d, .int a] (st ++ x) = .ok .non (st ++ x) := by
  have b1 := q.brw x f_first_no_fraction (oD (fb bs)) (by cases fb bs <;> rfl) (fun s => firstno hi s _ (.inl rfl)) (fun s => firstno hi s _ (.inr rfl))
  rw [hb] at b1
  have l1 := q.len x
  have i1 := q.ist x
  obtain ⟨n, hn⟩ : ∃ n : Int, n = (ds.length : Nat) := ⟨_, rfl⟩
  rw [← hn] at l1 hN
  have o1 := isord N
  rw [decide_eq_true (show 2 ≤ N ∧ N ≤ 24 from ⟨h1, h2⟩)] at o1
  have n1 : notN (oD none) .non (st ++ x) = .ok (.bl false) (st ++ x) := rfl
  generalize st ++ x = s at *
  unfold f_check_numbers
  refine def_nx (σ := [some d, some (.int a), some (oD none)]) rfl ?_ (Nat.le_refl _)
  show m_check_numbers [some d, some (.int a), none] s = _
  unfold m_check_numbers
  simp [i1, l1, ← hN, o1, b1, n1]
theorem chk_ord {a N : Int} (hN : N = (ds.length : Nat) + a) (h : ¬ (2 ≤ N ∧ N ≤ 24)) : f_check_numbers [d, .int a] (st ++ x) = .exc (xOrd (.int N)) (st ++ x) := by
  have l1 := q.len x
  have i1 := q.ist x
  obtain ⟨n, hn⟩ : ∃ n : Int, n = (ds.length : Nat) := ⟨_, rfl⟩
  rw [← hn] at l1 hN
  have o1 := isord N
  rw [decide_eq_false h] at o1
  generalize st ++ x = s at *
  unfold f_check_numbers
  refine def_exc (σ := [some d, some (.int a), none]) rfl ?_ (Nat.le_refl _)
  show m_check_numbers [some d, some (.int a), none] s = _
  have r1 := ra_ord (ma := aCons (eBin addD (eCB lenD (aCons (eVar 0) aNil)) (eVar 1)) aNil) (σ := [some d, some (.int a), none]) (st := s) (d := .int N) (by simp [l1, ← hN])
  unfold m_check_numbers
  simp [i1, l1, ← hN, o1, r1]
theorem chk_fra {a N : Int} (hN : N = (ds.length : Nat) + a) (h1 : 2 ≤ N) (h2 : N ≤ 24) {i : Nat} (hb : fb bs = some i) : f_check_numbers [d, .int a] (st ++ x) = .exc (xFra (.int (i : Nat))) (st ++ x) := by
  have b1 := q.brw x f_first_no_fraction (oD (fb bs)) (by cases fb bs <;> rfl) (fun s => firstno hi s _ (.inl rfl)) (fun s => firstno hi s _ (.inr rfl))
  rw [hb] at b1
  have l1 := q.len x
  have i1 := q.ist x
  obtain ⟨n, hn⟩ : ∃ n : Int, n = (ds.length : Nat) := ⟨_, rfl⟩
  rw [← hn] at l1 hN
  have o1 := isord N
  rw [decide_eq_true (show 2 ≤ N ∧ N ≤ 24 from ⟨h1, h2⟩)] at o1
  obtain ⟨ii, hii⟩ : ∃ ii : D, ii = oD (some i) := ⟨_, rfl⟩
  have n1 : notN ii .non (st ++ x) = .ok (.bl true) (st ++ x) := by rw [hii]; rfl
  rw [← hii] at b1
  have hx : xFra (.int (i : Nat)) = xFra ii := by rw [hii]; rfl
  rw [hx]
  generalize st ++ x = s at *
  have r1 := ra_fra (ma := aCons (eVar 2) aNil) (σ := [some d, some (.int a), some ii]) (st := s) (d := ii) (by simp)
  unfold f_check_numbers
  refine def_exc (σ := [some d, some (.int a), some ii]) rfl ?_ (Nat.le_refl _)
  show m_check_numbers [some d, some (.int a), none] s = _
  unfold m_check_numbers
  simp [i1, l1, ← hN, o1, b1, n1, r1]
end
/-- neither list nor tuple -/
theorem chk_no {d : D} (a : Int) (s : Sto) (h : isiD (isB2 "list" "tuple" clsL) d s = .ok (.bl false) s) : f_check_numbers [d, .int a] s = .exc (xFra (.int (-1))) s := by
  have r1 := ra_fra (ma := aCons (eUn negI (eC (.int 1))) aNil) (σ := [some d, some (.int a), none]) (st := s) (d := .int (-1)) rfl
  unfold f_check_numbers
  refine def_exc (σ := [some d, some (.int a), none]) rfl ?_ (Nat.le_refl _)
  show m_check_numbers [some d, some (.int a), none] s = _
  unfold m_check_numbers
  simp [h, r1]
theorem its_fr : ∀ xs : List Rat, ∃ bs, Its bs (xs.map fr) ∧ fb bs = none
  | [] => ⟨[], .nil, rfl⟩
  | x :: xs => by
    obtain ⟨bs, h1, h2⟩ := its_fr xs
    exact ⟨true :: bs, .cons (isf_fr x) h1, by rw [fb_c, if_pos rfl, h2]; rfl⟩
theorem nr_oD (o : Option Nat) : NR (oD o) := fun _ => by cases o <;> rfl
theorem nr_row (xs : List Rat) : NR (rowD xs) := fun n => by
  show D.undF n (rowF xs) = true
  have h1 := nrs_fr xs n
  have h2 := nr_oD (lp xs) n
  unfold rowF
  simp only [D.undF, D.und, h1, h2, Bool.and_true, Bool.true_and]
section
variable {d : D} {xs : List Rat} {st : Sto} {ma : Am} {σ : Sl} {x : Str} {m : List D → Sto → Res D} (e : ma σ st = .ok [d] st)
include e
theorem emk1 : eMkP x m 1 0 false ma aNil σ st = (m [.ref st.length, d] (st ++ [some (.ins x [])])).bind fun d st3 => (match d with
    | .non => .ok (.ref st.length) st3
    | _ => .bad) := by
  unfold eMkP
  rw [e]
  rfl
theorem emk2 : eMkP x m 0 1 false aNil ma σ st = (m [.ref st.length, d] (st ++ [some (.ins x [])])).bind fun d st3 => (match d with
    | .non => .ok (.ref st.length) st3
    | _ => .bad) := by
  unfold eMkP
  simp only [aNil, Res.bind, e]
  rfl
end
end K10

set_option exponentiation.threshold 20000
set_option linter.all false
set_option maxRecDepth 100000
set_option maxHeartbeats 4000000
namespace K10
open PySem PySem.Spec PyProof.Rows L2 Sim
/-! ### rows by places -/
def tab (k : Nat) : Nat → (Nat → Rat) → List Rat
  | 0, _ => []
  | m + 1, U => U k :: tab (k + 1) m U
theorem tab_len : ∀ (m k : Nat) (U : Nat → Rat), (tab k m U).length = m
  | 0, _, _ => rfl
  | m + 1, k, U => congrArg Nat.succ (tab_len m (k + 1) U)
theorem tab_get : ∀ (m k : Nat) (U : Nat → Rat) (i : Nat), i < m → (tab k m U)[i]? = some (U (k + i))
  | 0, _, _, i, h => absurd h (Nat.not_lt_zero _)
  | m + 1, k, U, 0, h => rfl
  | m + 1, k, U, i + 1, h => by
    show (tab (k + 1) m U)[i]? = _
    rw [tab_get m (k + 1) U i (by omega)]
    congr 2
    omega
theorem tab_set : ∀ (m k : Nat) (R : Nat → Rat) (i : Nat) (v : Rat), (tab k m R).set i v = tab k m (fun q => if q = k + i then v else R q)
  | 0, _, _, _, _ => rfl
  | m + 1, k, R, 0, v => by
    show v :: tab (k + 1) m R = (if k = k + 0 then v else R k) :: tab (k + 1) m (fun q => if q = k + 0 then v else R q)
    rw [if_pos (by omega)]
    congr 1
    have key : ∀ (m j : Nat), k < j → tab j m R = tab j m (fun q => if q = k + 0 then v else R q) := by
      intro m
      induction m with
      | zero => intro j _; rfl
      | succ m ih =>
        intro j hj
        show R j :: tab (j + 1) m R = (if j = k + 0 then v else R j) :: _
        rw [if_neg (by omega), ih (j + 1) (by omega)]
    exact key m (k + 1) (by omega)
  | m + 1, k, R, i + 1, v => by
    show R k :: (tab (k + 1) m R).set i v = (if k = k + (i + 1) then v else R k) :: _
    rw [if_neg (by omega), tab_set m (k + 1) R i v]
    congr 2
    funext q
    rw [show k + 1 + i = k + (i + 1) by omega]
theorem tab_congr : ∀ (m k : Nat) (R S : Nat → Rat), (∀ q, k ≤ q → q < k + m → R q = S q) → tab k m R = tab k m S
  | 0, _, _, _, _ => rfl
  | m + 1, k, R, S, h => by
    show R k :: tab (k + 1) m R = S k :: tab (k + 1) m S
    rw [h k (Nat.le_refl _) (by omega), tab_congr m (k + 1) R S fun q h1 h2 => h q (by omega) (by omega)]
theorem tab_mem {m k : Nat} {U : Nat → Rat} {x : Rat} (h : x ∈ tab k m U) : ∃ i, i < m ∧ x = U (k + i) := by
  obtain ⟨i, hi, e⟩ := List.getElem_of_mem h
  rw [tab_len] at hi
  have := tab_get m k U i hi
  rw [List.getElem?_eq_getElem (by rw [tab_len]; exact hi)] at this
  exact ⟨i, hi, by rw [← e]; exact Option.some.inj this⟩
theorem to_tab (xs : List Rat) : xs = tab 0 xs.length (fun i => xs.getD i 0) := by
  refine List.ext_getElem? fun i => ?_
  by_cases h : i < xs.length
  · rw [tab_get _ _ _ _ h, List.getElem?_eq_getElem h]
    simp [h]
  · rw [List.getElem?_eq_none (by omega), List.getElem?_eq_none (by rw [tab_len]; omega)]
theorem ix_fr (xs : List Rat) {i : Nat} {ii : Int} {x : Rat} (hi : ii = (i : Nat)) (h : xs[i]? = some x) (st : Sto) (c : D) (hc : c = .lst (xs.map fr) ∨ c = .tup (xs.map fr)) : ixD c (.int ii) st = .ok (fr x) st := by
  have hl : i < xs.length := by
    obtain ⟨z, _⟩ := List.getElem?_eq_some_iff.mp h
    exact z
  have e2 : atI (xs.map fr) ii = some (fr x) := by
    unfold atI ixN
    rw [if_pos (by omega), if_pos (by rw [List.length_map]; omega)]
    have : ii.toNat = i := by omega
    simp [this, h]
  rcases hc with rfl | rfl
  · have e : ixD (.lst (xs.map fr)) (.int ii) st = (match atI (xs.map fr) ii with | some d => Res.ok d st | none => .bad) := rfl
    rw [e, e2]
  · have e : ixD (.tup (xs.map fr)) (.int ii) st = (match atI (xs.map fr) ii with | some d => Res.ok d st | none => .bad) := rfl
    rw [e, e2]
theorem ix_tab (n : Nat) (U : Nat → Rat) {i : Nat} {ii : Int} (hi : ii = (i : Nat)) (h : i < n) (st : Sto) : ixD (.lst ((tab 0 n U).map fr)) (.int ii) st = .ok (fr (U i)) st := by
  have := tab_get n 0 U i h
  rw [Nat.zero_add] at this
  exact ix_fr _ hi this st _ (.inl rfl)
/-! ### comprehensions -/
theorem comp1 {f : D → Sto → Res (Option D)} {g : Rat → Rat} {st : Sto} : ∀ {xs : List Rat}, (∀ x ∈ xs, f (fr x) st = .ok (some (fr (g x))) st) → compM f (xs.map fr) st = .ok ((xs.map g).map fr) st
  | [], _ => rfl
  | x :: xs, h => by
    show compM f (fr x :: xs.map fr) st = _
    unfold compM
    rw [h x List.mem_cons_self]
    simp only [comp1 (fun y hy => h y (List.mem_cons_of_mem _ hy)), List.map_cons]
theorem comp2 {f : D → Sto → Res (Option D)} {g : Rat → Rat → Rat} {st : Sto} : ∀ {xs ys : List Rat}, (∀ x ∈ xs, ∀ y ∈ ys, f (.tup [fr x, fr y]) st = .ok (some (fr (g x y))) st) → compM f (zipD (xs.map fr) (ys.map fr)) st = .ok ((List.zipWith g xs ys).map fr) st
  | [], _, _ => by simp [zipD, compM]
  | _ :: _, [], _ => by simp [zipD, compM]
  | x :: xs, y :: ys, h => by
    show compM f (.tup [fr x, fr y] :: zipD (xs.map fr) (ys.map fr)) st = _
    unfold compM
    rw [h x List.mem_cons_self y List.mem_cons_self]
    simp only [comp2 (fun a ha b hb => h a (List.mem_cons_of_mem _ ha) b (List.mem_cons_of_mem _ hb)), List.zipWith_cons_cons, List.map_cons]
end K10

set_option exponentiation.threshold 20000
set_option linter.all false
set_option maxRecDepth 100000
set_option maxHeartbeats 4000000
namespace K10
open PySem PySem.Spec PyProof.Rows L2 Sim
def BdL (n : Nat) (xs : List Rat) : Prop := ∀ x ∈ xs, Bd n x
section
variable {xs ys : List Rat} {n m : Nat} (hx : BdL n xs) (hy : BdL m ys) (h : n + m ≤ 8000) (hl : xs.length ≤ 1000)
theorem mkE (zs : List Rat) (hl : zs.length ≤ 1000) (st : Sto) : mkL false (zs.map fr) st = .ok (.lst (zs.map fr)) st := mkF _ (by rw [List.length_map]; omega) st
include hl
section
include hx hy h
end
section
variable {t : Rat} (ht : Bd m t)
include hx ht h
end
end
end K10

set_option exponentiation.threshold 20000
set_option linter.all false
set_option maxRecDepth 100000
set_option maxHeartbeats 4000000
namespace K10
open PySem PySem.Spec PyProof.Rows L2 Sim
/-! ### products of rows -/
/-- the sum of U j * W (k - j) for j below m -/
def cs (U W : Nat → Rat) (k : Nat) : Nat → Rat
  | 0 => 0
  | m + 1 => cs U W k m + U m * W (k - m)
section
variable {U W : Nat → Rat} {n a b : Nat} (hU : ∀ i, i < n → Bd a (U i)) (hW : ∀ i, i < n → Bd b (W i))
include hU hW
end
theorem sd_last {st : Sto} {ds : List D} {i : Nat} {ii : Int} {v : D} (hi : ii = (i : Nat)) (h : i < ds.length) : setD (.ref st.length) (.int ii) v (st ++ [some (.lst ds)]) = some (st ++ [some (.lst (ds.set i v))]) := by
  unfold setD
  have e : ixN ds.length ii = some i := by
    unfold ixN
    rw [if_pos (by omega), if_pos (by omega)]
    congr 1
    omega
  simp only [last_get, e, last_set]
theorem ix_last {st : Sto} {m : Nat} {R : Nat → Rat} {i : Nat} {ii : Int} (hi : ii = (i : Nat)) (h : i < m) : ixD (.ref st.length) (.int ii) (st ++ [some (.lst ((tab 0 m R).map fr))]) = .ok (fr (R i)) (st ++ [some (.lst ((tab 0 m R).map fr))]) := by
  have e : itemsOf (.ref st.length) (st ++ [some (.lst ((tab 0 m R).map fr))]) = some ((tab 0 m R).map fr) := by
    unfold itemsOf
    simp only [last_get]
  have e2 : atI ((tab 0 m R).map fr) ii = some (fr (R i)) := by
    unfold atI ixN
    rw [if_pos (by omega), if_pos (by rw [List.length_map, tab_len]; omega)]
    have : ii.toNat = i := by omega
    simp [this, tab_get m 0 R i h]
  have e3 : ixD (.ref st.length) (.int ii) (st ++ [some (.lst ((tab 0 m R).map fr))]) = (match itemsOf (.ref st.length) (st ++ [some (.lst ((tab 0 m R).map fr))]) with
    | some ds => (match atI ds ii with
      | some d => Res.ok d (st ++ [some (.lst ((tab 0 m R).map fr))])
      | none => .bad)
    | none => .bad) := rfl
  rw [e3, e]
  simp only [e2]
abbrev inB : Sm := (sSetIx (eCall f_add_product (aCons (eBin ixD (eVar 3) (eVar 7)) (aCons (eVar 5) (aCons (eBin ixD (eVar 1) (eBin subI (eVar 7) (eVar 4))) aNil))) []) (eVar 3) (eVar 7))
theorem inLoop {n at_ : Nat} {W : Nat → Rat} {u : Rat} {a b c : Nat} (hu : Bd a u) (hW : ∀ i, i < n → Bd b (W i)) (hb : c + (a + b) ≤ 8000) (st : Sto) (x0 x2 : Option D) (ai : Int) (ha : ai = (at_ : Nat)) : ∀ (m p : Nat) (lo : Int) (R : Nat → Rat) (x6 x7 : Option D), lo = (p : Nat) → p + m ≤ n → at_ ≤ p → (∀ q, p ≤ q → q < n → Bd c (R q)) →
    ∃ x7', Sim.forM (inTurn (gN 7) inB) (intsL lo m) [x0, some (.lst ((tab 0 n W).map fr)), x2, some (.ref st.length), some (.int ai), some (fr u), x6, x7] (st ++ [some (.lst ((tab 0 n R).map fr))]) = .nx [x0, some (.lst ((tab 0 n W).map fr)), x2, some (.ref st.length), some (.int ai), some (fr u), x6, x7'] (st ++ [some (.lst ((tab 0 n (fun q => if p ≤ q ∧ q < p + m then R q + u * W (q - at_) else R q)).map fr))])
  | 0, p, lo, R, x6, x7, hlo, hm, hp, hR => by
    refine ⟨x7, ?_⟩
    have e : tab 0 n (fun q => if p ≤ q ∧ q < p + 0 then R q + u * W (q - at_) else R q) = tab 0 n R := tab_congr _ _ _ _ fun q _ _ => by rw [if_neg (by omega)]
    rw [e]
    rfl
  | m + 1, p, lo, R, x6, x7, hlo, hm, hp, hR => by
    have e1 := ix_last (st := st) (m := n) (R := R) hlo (show p < n by omega)
    have e2 := ix_tab n W (i := p - at_) (ii := lo - ai) (by omega) (by omega) (st ++ [some (.lst ((tab 0 n R).map fr))])
    have e3 := add_product (hR p (Nat.le_refl _) (by omega)) hu (hW (p - at_) (by omega)) hb (st ++ [some (.lst ((tab 0 n R).map fr))])
    have e4 := sd_last (st := st) (ds := (tab 0 n R).map fr) (v := fr (R p + u * W (p - at_))) hlo (by rw [List.length_map, tab_len]; omega)
    obtain ⟨x7', ih⟩ := inLoop hu hW hb st x0 x2 ai ha m (p + 1) (lo + 1) (fun q => if q = p then R p + u * W (p - at_) else R q) x6 (some (.int lo)) (by omega) (by omega) (by omega) (fun q h1 hq => by
      show Bd c (if q = p then R p + u * W (p - at_) else R q)
      rw [if_neg (by omega)]; exact hR q (by omega) hq)
    refine ⟨x7', ?_⟩
    have g1 : ((tab 0 n R).map fr).set p (fr (R p + u * W (p - at_))) = (tab 0 n (fun q => if q = p then R p + u * W (p - at_) else R q)).map fr := by
      rw [← List.map_set, tab_set]
      congr 2
      funext q
      rw [Nat.zero_add]
    rw [g1] at e4
    have g2 : tab 0 n (fun q => if p + 1 ≤ q ∧ q < p + 1 + m then (fun q => if q = p then R p + u * W (p - at_) else R q) q + u * W (q - at_) else (fun q => if q = p then R p + u * W (p - at_) else R q) q) = tab 0 n (fun q => if p ≤ q ∧ q < p + (m + 1) then R q + u * W (q - at_) else R q) := tab_congr _ _ _ _ fun q _ _ => by
      show (if p + 1 ≤ q ∧ q < p + 1 + m then (if q = p then R p + u * W (p - at_) else R q) + u * W (q - at_) else (if q = p then R p + u * W (p - at_) else R q)) = _
      by_cases z : q = p
      · subst z
        rw [if_neg (by omega), if_pos rfl, if_pos (by omega)]
      · rw [if_neg z]
        by_cases z2 : p + 1 ≤ q ∧ q < p + 1 + m
        · rw [if_pos z2, if_pos (by omega)]
        · rw [if_neg z2, if_neg (by omega)]
    rw [g2] at ih
    rw [← ih, intsL_cons, forM_c]
    have st1 : inTurn (gN 7) inB (.int lo) [x0, some (.lst ((tab 0 n W).map fr)), x2, some (.ref st.length), some (.int ai), some (fr u), x6, x7] (st ++ [some (.lst ((tab 0 n R).map fr))]) = .nx [x0, some (.lst ((tab 0 n W).map fr)), x2, some (.ref st.length), some (.int ai), some (fr u), x6, some (.int lo)] (st ++ [some (.lst ((tab 0 n (fun q => if q = p then R p + u * W (p - at_) else R q)).map fr))]) := by
      generalize st ++ [some (.lst ((tab 0 n R).map fr))] = s1 at *
      generalize st ++ [some (.lst ((tab 0 n (fun q => if q = p then R p + u * W (p - at_) else R q)).map fr))] = s2 at *
      generalize (tab 0 n W).map fr = ww at *
      generalize fr (R p) = f1 at *
      generalize fr u = f2 at *
      generalize fr (W (p - at_)) = f3 at *
      generalize fr (R p + u * W (p - at_)) = f4 at *
      simp [inTurn, e1, e2, e3, e4]
    rw [st1]
abbrev outB : Sm := (sIf (tOf (eBin neD (eBin ixD (eVar 5) (eC (.int 0))) (eC (.int 0)))) (sFor (iRange2 (aCons (eVar 4) (aCons (eVar 2) aNil))) (gN 7) inB) sNil)
abbrev g45 : Gm := (gT 2 (gsCons (gN 4) (gsCons (gN 5) gsNil)))
theorem big_of {i : Int} (h : 0 ≤ i) (h2 : i < 1000000) : big i = true := by
  unfold big
  have a : -(2 ^ 62) ≤ i := by omega
  have b : i < 2 ^ 62 := by omega
  simp only [decide_eq_true a, decide_eq_true b, Bool.and_true]
end K10

set_option exponentiation.threshold 20000
set_option linter.all false
set_option maxRecDepth 100000
set_option maxHeartbeats 4000000
namespace K10
open PySem PySem.Spec PyProof.Rows L2 Sim
def conv (U W : Nat → Rat) (k : Nat) : Rat := cs U W k (k + 1)
theorem comp_const {own : List Nat} {g : Gm} {c : D} {σ : Sl} (hg : ∀ d, ∃ σ', g d (wipeD σ own) = some σ') (st : Sto) : ∀ ds : List D, compM (compF own g tTrue (eC c) σ) ds st = .ok (ds.map fun _ => c) st
  | [] => rfl
  | d :: ds => by
    unfold compM
    obtain ⟨σ', h⟩ := hg d
    have e : compF own g tTrue (eC c) σ d st = .ok (some c) st := by
      unfold compF
      rw [h]
      rfl
    rw [e]
    simp only [comp_const hg st ds, List.map_cons]
theorem zeros : ∀ (n k : Nat) (lo : Int), ((intsL lo n).map fun _ => (D.tup [.int 0, .int 1])) = (tab k n (fun _ => 0)).map fr
  | 0, _, _ => rfl
  | n + 1, k, lo => by
    rw [intsL_cons]
    show D.tup [.int 0, .int 1] :: (intsL (lo + 1) n).map _ = fr 0 :: (tab (k + 1) n fun _ => 0).map fr
    rw [zeros n (k + 1) (lo + 1)]
    rfl
theorem tab_snoc : ∀ (m k : Nat) (U : Nat → Rat), tab k (m + 1) U = tab k m U ++ [U (k + m)]
  | 0, k, U => rfl
  | m + 1, k, U => by
    show U k :: tab (k + 1) (m + 1) U = (U k :: tab (k + 1) m U) ++ _
    rw [tab_snoc m (k + 1) U]
    show _ = U k :: (tab (k + 1) m U ++ [U (k + (m + 1))])
    rw [show k + 1 + m = k + (m + 1) by omega]
theorem frz_lst {st : Sto} {L : List D} {σ : Sl} {i : Nat} (h : σ[i]? = some (some (.ref st.length))) : eFrz (eVar i) σ (st ++ [some (.lst L)]) = .ok (.lst L) (st ++ [none]) := by
  have e : eVar i σ (st ++ [some (.lst L)]) = .ok (.ref st.length) (st ++ [some (.lst L)]) := by simp [h]
  have f : frzD (.ref st.length) (st ++ [some (.lst L)]) = .ok (.lst L) (st ++ [none]) := by
    unfold frzD
    simp only [last_get, last_set]
  unfold eFrz
  rw [e]
  simp only [f]
  exact finR_le (by simp)
theorem def_cut {k n : Nat} {m : Sm} {as : List D} {d : D} {st j : Sto} (hk : as.length = k) (h : m (as.map some ++ List.replicate (n - as.length) none) st = .rt d (st ++ j)) (hd : NR d) (hs : NoR st) : chk k (runDef n m) as st = .ok d st := by
  unfold chk
  rw [if_pos hk]
  unfold runDef
  rw [h]
  exact finR_cut hd hs
theorem nr_lst' {ds : List D} (h : NRs ds) : NR (.lst ds) := fun n => by simpa [D.und] using h n
section
variable {n : Nat} {U W : Nat → Rat} {a b : Nat} (hU : ∀ i, i < n → Bd a (U i)) (hW : ∀ i, i < n → Bd b (W i)) (hb : 1 + n * (a + b + 1) + (a + b) ≤ 8000) (hn : n ≤ 1000) {st : Sto} (hs : NoR st)
include hU hW hb hn hs
end
end K10

set_option exponentiation.threshold 20000
set_option linter.all false
set_option maxRecDepth 100000
set_option maxHeartbeats 4000000
namespace K10
open PySem PySem.Spec PyProof.Rows L2 Sim
abbrev t1B : Sm := (sIf (tAnd (tOf (eBin neD (eBin ixD (eBin ixD (eVar 0) (eVar 5)) (eC (.int 0))) (eC (.int 0)))) (tOf (eBin neD (eBin ixD (eBin ixD (eVar 1) (eBin subI (eVar 3) (eVar 5))) (eC (.int 0))) (eC (.int 0))))) (sSet 4 (eCall f__law_add (aCons (eVar 4) (aCons (eCall f__law_mul (aCons (eBin ixD (eVar 0) (eVar 5)) (aCons (eBin ixD (eVar 1) (eBin subI (eVar 3) (eVar 5))) aNil)) []) aNil)) [])) sNil)
abbrev t2B : Sm := (sSeq (sSet 4 (eTup (aCons (eC (.int 0)) (aCons (eC (.int 1)) aNil)))) (sSeq (sFor (iRange1 (aCons (eBin addD (eVar 3) (eC (.int 1))) aNil)) (gN 5) t1B) (sExpr (eBM "list" (mutD fAppend) (eVar 2) (aCons (eVar 4) aNil)))))
theorem app_last {st : Sto} {L : List D} {d : D} (h : L.length < 10000) : mutD fAppend (.ref st.length) [d] (st ++ [some (.lst L)]) = .ok .non (st ++ [some (.lst (L ++ [d]))]) := by
  unfold mutD fAppend wrL
  simp only [last_get, if_pos (Nat.lt_of_lt_of_le h (show 10000 ≤ line by decide)), last_set]
theorem isT_last {st : Sto} {L : List D} : Sim.isT "list" (.ref st.length) (st ++ [some (.lst L)]) = true := by
  have h : Sim.listOf (.ref st.length) (st ++ [some (.lst L)]) = some L := by
    show Sim.itemsOf (.ref st.length) (st ++ [some (.lst L)]) = some L
    unfold Sim.itemsOf
    simp only [last_get]
  show (("list" : String) == "list" && (Sim.listOf (.ref st.length) (st ++ [some (.lst L)])).isSome) = true
  rw [h]
  rfl
theorem sFor_of {im : Im} {g : Gm} {b : Sm} {σ : Sl} {st st1 : Sto} {items : List D} (h : im σ st = .ok items st1) : sFor im g b σ st = Sim.forM (inTurn g b) items σ st1 := by
  unfold sFor
  rw [h]
  rfl
theorem range_len {σ : Sl} {st : Sto} {u : D} {ni : Int} {n : Nat} (h : σ[0]? = some (some u)) (l1 : lenD [u] st = .ok (.int ni) st) (b2 : big ni = true) (t1 : ni.toNat = n) : iRange1 (aCons (eCB lenD (aCons (eVar 0) aNil)) aNil) σ st = .ok (intsL 0 n) st := by
  simp [h, l1, b2, t1]
theorem times_eq : m__law_times = (sSeq (sSet 2 (eLst true aNil)) (sSeq (sFor (iRange1 (aCons (eCB lenD (aCons (eVar 0) aNil)) aNil)) (gN 3) t2B) (sRet (eFrz (eVar 2))))) := rfl
section
variable {n : Nat} {U W : Nat → Rat} {a b : Nat} (hU : ∀ i, i < n → Bd a (U i)) (hW : ∀ i, i < n → Bd b (W i)) (hb : 1 + n * (a + b + 1) + (a + b) ≤ 8000) (hn : n ≤ 1000) {st : Sto}
include hU hW hb hn
end
end K10

set_option exponentiation.threshold 20000
set_option linter.all false
set_option maxRecDepth 100000
set_option maxHeartbeats 4000000
namespace K10
open PySem PySem.Spec PyProof.Rows L2 Sim
/-! ### the methods of rows -/
theorem at_num (xs : List Rat) (st : Sto) : attD "_numbers" (rowD xs) st = .ok (.lst (xs.map fr)) st := rfl
theorem at_ord (xs : List Rat) {n : Int} (h : n = (xs.length : Nat) - 1) (st : Sto) : attD "order" (rowD xs) st = .ok (.int n) st := by subst h; rfl
theorem at_hei (xs : List Rat) (st : Sto) : attD "height" (rowD xs) st = .ok (oD (lp xs)) st := rfl
theorem isc_row (xs : List Rat) (st : Sto) : isC "Row" (rowD xs) st = true := by
  show decide (("Row" : Str) = "Row") = true
  decide +kernel
theorem io_row (m : Str) (h : m = "numbers" ∨ m = "number" ∨ m = "scaled" ∨ m = "cut") (xs : List Rat) (st : Sto) : insOf "Row" m (rowD xs) st = true := by
  rcases h with rfl | rfl | rfl | rfl <;> rfl
theorem li_len (xs : List Rat) {n : Int} (h : n = (xs.length : Nat)) (st : Sto) : lenD [.lst (xs.map fr)] st = .ok (.int n) st := by
  show Res.ok (D.int ((xs.map fr).length : Nat)) st = _
  rw [List.length_map, h]
section
variable (xs : List Rat) (st : Sto) (hl : xs.length ≤ 1000)
theorem li_list (hl : xs.length ≤ 1000) (st : Sto) : listD false [.lst (xs.map fr)] st = .ok (.lst (xs.map fr)) st := by
  show mkL false (xs.map fr) st = _
  exact mkE xs hl st
include hl
end
theorem isw (i : Int) (st : Sto) : f_is_whole [.int i] st = .ok (.bl true) st := by
  have h1 : isiD (isB "int" clsL) (.int i) st = .ok (.bl true) st := rfl
  have h2 : isiD (isB "bool" clsL) (.int i) st = .ok (.bl false) st := rfl
  unfold f_is_whole
  refine def_rt rfl ?_ (Nat.le_refl _)
  show m_is_whole [some (.int i)] st = _
  unfold m_is_whole
  simp [h1, h2]
theorem isw_no {d : D} {b1 b2 : Bool} (h : Pt d b1 b2) (hb : (b1 && !b2) = false) (st : Sto) : f_is_whole [d] st = .ok (.bl false) st := by
  have h1 := (h st).1
  have h2 := (h st).2
  unfold f_is_whole
  refine def_rt rfl ?_ (Nat.le_refl _)
  show m_is_whole [some d] st = _
  unfold m_is_whole
  cases b1 <;> cases b2 <;> first | (exact absurd hb (by decide)) | simp [h1, h2]
def pf (x : Rat) : PyData := .tuple [.int x.num, .int x.den]
theorem pys_fr : ∀ xs : List Rat, D.pys (xs.map fr) = some (xs.map pf)
  | [] => rfl
  | x :: xs => by
    have ih := pys_fr xs
    show (match D.py (fr x), D.pys (xs.map fr) with
      | some a, some b => some (a :: b)
      | _, _ => none) = _
    rw [ih]
    rfl
theorem lay_fr : ∀ xs : List Rat, PyData.canLayAll0 (xs.map pf) = true
  | [] => rfl
  | x :: xs => by
    show (PyData.canLay0 (pf x) && PyData.canLayAll0 (xs.map pf)) = true
    rw [lay_fr xs]
    rfl
theorem eqv_pf (x y : Rat) : PyData.eqv (pf x) (pf y) = decide (x = y) := by
  have e : PyData.eqv (pf x) (pf y) = ((x.num == y.num) && (((x.den : Int) == (y.den : Int)) && true)) := rfl
  rw [e, Bool.and_true]
  by_cases h : x = y
  · subst h
    simp
  · rw [decide_eq_false h]
    by_cases h1 : x.num = y.num
    · have h2 : ¬ x.den = y.den := fun z => h (Rat.ext h1 z)
      have h3 : ((x.den : Int) == (y.den : Int)) = false := beq_eq_false_iff_ne.mpr (by omega)
      rw [h3, Bool.and_false]
    · simp [h1]
theorem eqv_all : ∀ xs ys : List Rat, PyData.eqvAll (xs.map pf) (ys.map pf) = decide (xs = ys)
  | [], [] => rfl
  | [], _ :: _ => rfl
  | _ :: _, [] => rfl
  | x :: xs, y :: ys => by
    show (PyData.eqv (pf x) (pf y) && PyData.eqvAll (xs.map pf) (ys.map pf)) = _
    rw [eqv_pf, eqv_all xs ys]
    by_cases h1 : x = y
    · by_cases h2 : xs = ys
      · simp [h1, h2]
      · simp [h1, h2]
    · simp [h1]
end K10

set_option exponentiation.threshold 20000
set_option linter.all false
set_option maxRecDepth 100000
set_option maxHeartbeats 4000000
namespace K10
open PySem PySem.Spec PyProof.Rows L2 Sim
theorem ret_of {m : Em} {σ : Sl} {d : D} {st st1 : Sto} (h : m σ st = .ok d st1) : sRet m σ st = .rt d st1 := by
  unfold sRet
  rw [h]
  rfl
theorem depth_fr : ∀ xs : List Rat, PyData.depthAll (xs.map pf) ≤ 1
  | [] => Nat.zero_le _
  | x :: xs => by
    show max (PyData.depth (pf x)) (PyData.depthAll (xs.map pf)) ≤ 1
    have := depth_fr xs
    have e : PyData.depth (pf x) = 1 := rfl
    omega
theorem shape_fr (xs : List Rat) : SeqAt.shaped (.list (xs.map pf)) = true := by
  unfold SeqAt.shaped
  have h1 : (PyData.list (xs.map pf)).canLay0 = true := lay_fr xs
  have h2 : (PyData.list (xs.map pf)).depth ≤ 64 := by
    show PyData.depthAll (xs.map pf) + 1 ≤ 64
    have := depth_fr xs
    omega
  rw [h1, decide_eq_true h2]
  rfl
theorem eqD_fr (xs ys : List Rat) (st : Sto) : eqD (.lst (xs.map fr)) (.lst (ys.map fr)) st = .ok (.bl (decide (xs = ys))) st := by
  have e1 : ∀ zs : List Rat, Sim.pyOf (.lst (zs.map fr)) st = some (.list (zs.map pf)) := fun zs => by
    show (D.pys (zs.map fr)).map PyData.list = _
    rw [pys_fr]
    rfl
  unfold eqD
  rw [e1, e1]
  show (if (SeqAt.shaped (.list (xs.map pf)) && SeqAt.shaped (.list (ys.map pf))) = true then Res.ok (D.bl (PyData.eqv (.list (xs.map pf)) (.list (ys.map pf)))) st else .bad) = _
  rw [shape_fr, shape_fr]
  show Res.ok (D.bl (PyData.eqvAll (xs.map pf) (ys.map pf))) st = _
  rw [eqv_all]
theorem bd_den {n : Nat} {xs : List Rat} (h : BdL n xs) (hn : n ≤ 1000) : ∀ x ∈ xs, x.den < 2 ^ 1000 := fun x hx => ((h x hx).up hn).2
section
variable {xs ys : List Rat} {n m : Nat} (hx : BdL n xs) (hy : BdL m ys) (h : n + m + 1 ≤ 1000) (he : xs.length = ys.length) (h3 : 3 ≤ xs.length) (h25 : xs.length ≤ 25) {st : Sto} (hs : NoR st)
include hx hy h he h3 h25 hs
end
end K10

set_option exponentiation.threshold 20000
set_option linter.all false
set_option maxRecDepth 100000
set_option maxHeartbeats 4000000
namespace K10
open PySem PySem.Spec PyProof.Rows L2 Sim
theorem cut_to (ds : List D) (k : Nat) : Sim.cutD ds none (some (k : Nat)) = ds.take k := by
  unfold Sim.cutD
  have e1 : HT.sIx ds.length 0 none = 0 := rfl
  have e2 : HT.sIx ds.length ds.length (some ((k : Nat) : Int)) = min k ds.length := HT.sIx_nat ds.length ds.length k
  rw [e1, e2, List.drop_zero]
  by_cases h : k ≤ ds.length
  · rw [Nat.min_eq_left h]
    rfl
  · rw [Nat.min_eq_right (by omega), List.take_of_length_le (by omega)]
    exact (List.take_of_length_le (by omega)).symm
theorem cut_from (ds : List D) (k : Nat) : Sim.cutD ds (some (k : Nat)) none = ds.drop k := by
  unfold Sim.cutD
  have e1 : HT.sIx ds.length 0 (some ((k : Nat) : Int)) = min k ds.length := HT.sIx_nat ds.length 0 k
  have e2 : HT.sIx ds.length ds.length none = ds.length := rfl
  rw [e1, e2]
  by_cases h : k ≤ ds.length
  · rw [Nat.min_eq_left h, List.take_of_length_le (by rw [List.length_drop]; omega)]
  · rw [Nat.min_eq_right (by omega), List.drop_of_length_le (Nat.le_refl _), List.drop_of_length_le (by omega)]
    simp
theorem sl_to {ds : List D} {k : Nat} {ki : Int} (hk : ki = (k : Nat)) (hl : ds.length ≤ 1000) (st : Sto) : slD false (.lst ds) none (some ki) st = .ok (.lst (ds.take k)) st := by
  subst hk
  show mkL false (Sim.cutD ds none (some ((k : Nat) : Int))) st = _
  rw [cut_to]
  exact mkF _ (by rw [List.length_take]; omega) st
theorem sl_from {ds : List D} {k : Nat} {ki : Int} (hk : ki = (k : Nat)) (hl : ds.length ≤ 1000) (st : Sto) : slD false (.lst ds) (some ki) none st = .ok (.lst (ds.drop k)) st := by
  subst hk
  show mkL false (Sim.cutD ds (some ((k : Nat) : Int)) none) st = _
  rw [cut_from]
  exact mkF _ (by rw [List.length_drop]; omega) st
def m1 : Rat := mkf (-1) 1
theorem m1_mul (x : Rat) : x * m1 = -x := by
  have : m1 = -1 := by rfl
  rw [this]
  grind
theorem map_m1 (xs : List Rat) : xs.map (· * m1) = xs.map (- ·) := List.map_congr_left fun x _ => m1_mul x
section
variable {xs : List Rat} {n m : Nat} (hx : BdL n xs) (h3 : 3 ≤ xs.length) (h25 : xs.length ≤ 25) {st : Sto} (hs : NoR st)
include hx h3 h25 hs
omit hx h3 h25 hs in
end
theorem mul_ma {r s x y z : D} {st : Sto} (a : attD "_numbers" r st = .ok x st) (b : attD "_numbers" s st = .ok y st) (c : f_multiplied [x, y] st = .ok z st) : (aCons (eCall f_multiplied (aCons (eUn (attD "_numbers") (eVar 0)) (aCons (eUn (attD "_numbers") (eVar 1)) aNil)) []) aNil) [some r, some s] st = .ok [z] st := by
  simp [a, b, c]
section
variable {n : Nat} {U W : Nat → Rat} {a b : Nat} (hU : ∀ i, i < n → Bd a (U i)) (hW : ∀ i, i < n → Bd b (W i)) (hb : 1 + n * (a + b + 1) + (a + b) ≤ 8000) (h3 : 3 ≤ n) (h25 : n ≤ 25) {st : Sto} (hs : NoR st)
include hU hW hb h3 h25 hs
end
end K10

set_option exponentiation.threshold 20000
set_option linter.all false
set_option maxRecDepth 100000
set_option maxHeartbeats 4000000
namespace K10
open PySem PySem.Spec PyProof.Rows L2 Sim
/-! ### what is asked -/
theorem finR_self (d : D) (st : Sto) : finR st.length d st = .ok d st := finR_le (Nat.le_refl _)
theorem ask_told {me : Em} {σ : Sl} {d : D} {st : Sto} (h : me σ st = .ok d st) : eAsk f__law_ask me σ st = .ok (.lst [.str "told", d]) st := by
  have z : f__law_ask (me σ) st = .ok (.lst [.str "told", d]) st := by
    unfold f__law_ask fAsk sTry
    simp only [h, Res.toRS]
    exact finR_self _ _
  unfold eAsk
  rw [z]
  rfl
theorem ask_exc {me : Em} {σ : Sl} {x : Exn} {d : D} {st j : Sto} (h : me σ st = .exc x (st ++ j)) (hl : x.cls ∈ leafs) (ha : ("CreepError" : Str) ∈ ancO x.cls) (hf : f__law_fault [.ins x.cls x.fs] (st ++ j) = .ok d (st ++ j)) (hd : NR d) (hs : NoR st) : eAsk f__law_ask me σ st = .ok d st := by
  have z : f__law_ask (me σ) st = .ok d st := by
    unfold f__law_ask fAsk sTry
    simp only [h, Res.toRS]
    rw [if_pos hl]
    have e : (eCallH f__law_fault (aCons (eVar 1) aNil)) ((List.replicate 2 none).set 1 (some (D.ins x.cls x.fs))) (st ++ j) = .ok d (st ++ j) := by
      unfold eCallH
      simp [hf, noX]
    have e2 : sRet (eCallH f__law_fault (aCons (eVar 1) aNil)) ((List.replicate 2 none).set 1 (some (D.ins x.cls x.fs))) (st ++ j) = .rt d (st ++ j) := ret_of e
    have key : hdM ancO cl__law_ask x (List.replicate 2 none) (st ++ j) = .rt d (st ++ j) := by
      unfold cl__law_ask hdM
      rw [if_pos ha]
      simp only [e2]
    rw [key]
    exact finR_cut hd hs
  unfold eAsk
  rw [z]
  rfl
theorem isO_no {C T : Str} {fs : List (Str × D)} (h1 : C ∈ leafs) (h2 : T ∉ ancO C) (st : Sto) : isiD (isO ancO leafs T) (.ins C fs) st = .ok (.bl false) st := by
  show (match (if C ∈ leafs then some (decide (T ∈ ancO C)) else none) with | some b => Res.ok (D.bl b) st | none => .bad) = _
  rw [if_pos h1, decide_eq_false h2]
theorem isO_yes {C T : Str} {fs : List (Str × D)} (h1 : C ∈ leafs) (h2 : T ∈ ancO C) (st : Sto) : isiD (isO ancO leafs T) (.ins C fs) st = .ok (.bl true) st := by
  show (match (if C ∈ leafs then some (decide (T ∈ ancO C)) else none) with | some b => Res.ok (D.bl b) st | none => .bad) = _
  rw [if_pos h1, decide_eq_true h2]
theorem nr2 {z : Str} {d : D} (h : NR d) : NR (.lst [.str z, d]) := nr_lst' (.cons (fun _ => rfl) (.cons h .nil))
theorem nr3 {z : Str} {d e : D} (h : NR d) (h2 : NR e) : NR (.lst [.str z, d, e]) := nr_lst' (.cons (fun _ => rfl) (.cons h (.cons h2 .nil)))
section
variable {me : Em} {σ : Sl} {d e : D} {st j : Sto} (hs : NoR st)
include hs
end
end K10

set_option exponentiation.threshold 20000
set_option linter.all false
set_option maxRecDepth 100000
set_option maxHeartbeats 4000000
namespace K10
open PySem PySem.Spec PyProof.Rows L2 Sim
theorem plL {n : Nat} {ds : List D} (h : ds.length ≤ 1000) (hd : ∀ d ∈ ds, Pl n d) : Pl (n + 1) (.lst ds) := .lst n _ h hd
theorem pl_fr (x : Rat) : Pl 1 (fr x) := .tup 0 _ (by simp) fun d hd => by
  simp at hd
  rcases hd with rfl | rfl <;> exact .int 0 _
theorem pl_frs (xs : List Rat) (h : xs.length ≤ 1000) : Pl 2 (.lst (xs.map fr)) := plL (by rw [List.length_map]; exact h) fun d hd => by
  obtain ⟨x, _, rfl⟩ := List.mem_map.mp hd
  exact pl_fr x
theorem pl_oD (o : Option Nat) : Pl 0 (oD o) := by
  cases o with
  | none => exact .non _
  | some i => exact .int _ _
/-- the places with a number that is not 0 -/
def sp (k : Nat) : List Rat → List Int
  | [] => []
  | x :: r => if x = 0 then sp (k + 1) r else (k : Nat) :: sp (k + 1) r
theorem sp_head : ∀ (xs : List Rat) (k : Nat), (sp k xs).head? = (lp xs).map fun i => (((k + i : Nat)) : Int)
  | [], _ => rfl
  | x :: xs, k => by
    rw [lp_c]
    by_cases h : x = 0
    · rw [if_pos h]
      show (if x = 0 then sp (k + 1) xs else (k : Nat) :: sp (k + 1) xs).head? = _
      rw [if_pos h, sp_head xs (k + 1)]
      cases lp xs with
      | none => rfl
      | some i =>
        show some (((k + 1 + i : Nat)) : Int) = some (((k + (i + 1) : Nat)) : Int)
        rw [show k + 1 + i = k + (i + 1) by omega]
    · rw [if_neg h]
      show (if x = 0 then sp (k + 1) xs else (k : Nat) :: sp (k + 1) xs).head? = _
      rw [if_neg h]
      rfl
theorem sp_len : ∀ (xs : List Rat) (k : Nat), (sp k xs).length ≤ xs.length
  | [], _ => Nat.le_refl _
  | x :: xs, k => by
    show (if x = 0 then sp (k + 1) xs else (k : Nat) :: sp (k + 1) xs).length ≤ _
    have := sp_len xs (k + 1)
    split <;> simp <;> omega
/-- comprehensions over places -/
theorem compI {f : D → Sto → Res (Option D)} {st : Sto} {U : Nat → Rat} : ∀ (m k : Nat) (lo : Int), lo = (k : Nat) → (∀ i (ii : Int), k ≤ i → i < k + m → ii = (i : Nat) → f (.int ii) st = .ok (some (fr (U i))) st) → compM f (intsL lo m) st = .ok ((tab k m U).map fr) st
  | 0, _, _, _, _ => rfl
  | m + 1, k, lo, hlo, h => by
    rw [intsL_cons]
    unfold compM
    rw [h k lo (Nat.le_refl _) (by omega) hlo]
    have ih := compI m (k + 1) (lo + 1) (by omega) fun i ii h1 h2 h3 => h i ii (by omega) (by omega) h3
    simp only [ih]
    rfl
theorem compSp {f : D → Sto → Res (Option D)} {st : Sto} : ∀ (xs : List Rat) (k : Nat) (lo : Int), lo = (k : Nat) → (∀ i (ii : Int) x, xs[i]? = some x → ii = ((k + i : Nat) : Int) → f (.int ii) st = .ok (if x = 0 then none else some (.int ii)) st) → compM f (intsL lo xs.length) st = .ok ((sp k xs).map .int) st
  | [], _, _, _, _ => rfl
  | x :: xs, k, lo, hlo, h => by
    show compM f (intsL lo (xs.length + 1)) st = _
    rw [intsL_cons]
    unfold compM
    have e := h 0 lo x rfl (by omega)
    have ih := compSp xs (k + 1) (lo + 1) (by omega) fun i ii y h1 h2 => h (i + 1) ii y (by simpa using h1) (by omega)
    by_cases c : x = 0
    · rw [if_pos c] at e
      rw [e]
      simp only [ih]
      show _ = Res.ok ((if x = 0 then sp (k + 1) xs else (k : Nat) :: sp (k + 1) xs).map D.int) st
      rw [if_pos c]
    · rw [if_neg c] at e
      rw [e]
      simp only [ih]
      show _ = Res.ok ((if x = 0 then sp (k + 1) xs else (k : Nat) :: sp (k + 1) xs).map D.int) st
      rw [if_neg c, hlo]
      rfl
theorem pys_int : ∀ xs : List Int, D.pys (xs.map .int) = some (xs.map PyData.int)
  | [] => rfl
  | x :: xs => by
    show (match D.py (.int x), D.pys (xs.map .int) with
      | some a, some b => some (a :: b)
      | _, _ => none) = _
    rw [pys_int xs]
    rfl
theorem lay_int : ∀ xs : List Int, PyData.canLayAll0 (xs.map PyData.int) = true
  | [] => rfl
  | x :: xs => by
    show (PyData.canLay0 (.int x) && PyData.canLayAll0 (xs.map PyData.int)) = true
    rw [lay_int xs]
    rfl
theorem depth_int : ∀ xs : List Int, PyData.depthAll (xs.map PyData.int) = 0
  | [] => rfl
  | x :: xs => by
    show max (PyData.depth (.int x)) (PyData.depthAll (xs.map PyData.int)) = 0
    rw [depth_int xs]
    rfl
theorem shape_int (xs : List Int) : SeqAt.shaped (.list (xs.map PyData.int)) = true := by
  unfold SeqAt.shaped
  have h1 : (PyData.list (xs.map PyData.int)).canLay0 = true := lay_int xs
  have h2 : (PyData.list (xs.map PyData.int)).depth ≤ 64 := by
    show PyData.depthAll (xs.map PyData.int) + 1 ≤ 64
    rw [depth_int]
    omega
  rw [h1, decide_eq_true h2]
  rfl
theorem py_int (zs : List Int) (st : Sto) : Sim.pyOf (.lst (zs.map .int)) st = some (.list (zs.map PyData.int)) := by
  show (D.pys (zs.map .int)).map PyData.list = _
  rw [pys_int]
  rfl
theorem nempty (xs : List Int) : PyData.eqv (.list (xs.map PyData.int)) (.list []) = xs.isEmpty := by
  cases xs <;> rfl
theorem neD_emp (xs : List Int) (st : Sto) : neD (.lst (xs.map .int)) (.lst []) st = .ok (.bl (!xs.isEmpty)) st := by
  unfold neD
  have e2 : Sim.pyOf (.lst []) st = some (.list []) := rfl
  rw [py_int, e2]
  show (if (SeqAt.shaped (.list (xs.map PyData.int)) && SeqAt.shaped (.list [])) = true then Res.ok (D.bl (!PyData.eqv (.list (xs.map PyData.int)) (.list []))) st else .bad) = _
  have s2 : SeqAt.shaped (.list []) = true := by decide +kernel
  rw [shape_int, s2, nempty]
  rfl
theorem eqD_emp (xs : List Int) (st : Sto) : eqD (.lst (xs.map .int)) (.lst []) st = .ok (.bl xs.isEmpty) st := by
  unfold eqD
  have e2 : Sim.pyOf (.lst []) st = some (.list []) := rfl
  rw [py_int, e2]
  show (if (SeqAt.shaped (.list (xs.map PyData.int)) && SeqAt.shaped (.list [])) = true then Res.ok (D.bl (PyData.eqv (.list (xs.map PyData.int)) (.list []))) st else .bad) = _
  have s2 : SeqAt.shaped (.list []) = true := by decide +kernel
  rw [shape_int, s2, nempty]
  rfl
theorem ix_first (d : D) (r : List D) (st : Sto) : ixD (.lst (d :: r)) (.int 0) st = .ok d st := by
  have e : ixD (.lst (d :: r)) (.int 0) st = (match atI (d :: r) 0 with | some d => Res.ok d st | none => .bad) := rfl
  have e2 : atI (d :: r) 0 = some d := by
    unfold atI ixN
    rw [if_pos (by omega), if_pos (by simp)]
    rfl
  rw [e, e2]
/-- spots[0] if spots != [] else None -/
theorem first_spot {xs : List Rat} {σ : Sl} {i : Nat} (h : σ[i]? = some (some (.lst ((sp 0 xs).map .int)))) (st : Sto) : eIf (tOf (eBin neD (eVar i) (eLst false aNil))) (eBin ixD (eVar i) (eC (.int 0))) (eC .non) σ st = .ok (oD (lp xs)) st := by
  have hd := sp_head xs 0
  have ne := neD_emp (sp 0 xs) st
  have m0 : mkL false [] st = .ok (.lst []) st := mkF [] (by simp) st
  cases e : sp 0 xs with
  | nil =>
    rw [e] at h ne hd
    have : lp xs = none := by
      cases q : lp xs with
      | none => rfl
      | some i => rw [q] at hd; cases hd
    rw [this]
    simp only [List.map_nil, List.isEmpty_nil] at h ne
    simp [h, m0, -mkL_val, ne]
    rfl
  | cons a r =>
    rw [e] at h ne hd
    have : oD (lp xs) = .int a := by
      cases q : lp xs with
      | none => rw [q] at hd; cases hd
      | some i =>
        rw [q] at hd
        have z : some a = some (((0 + i : Nat)) : Int) := hd
        rw [Nat.zero_add] at z
        cases z
        rfl
    rw [this]
    have ix := ix_first (.int a) (r.map .int) st
    simp only [List.map_cons, List.isEmpty_cons] at h ne
    simp [h, m0, -mkL_val, ne, ix]
end K10

set_option exponentiation.threshold 20000
set_option linter.all false
set_option maxRecDepth 100000
set_option maxHeartbeats 4000000
namespace K10
open PySem PySem.Spec PyProof.Rows L2 Sim
/-! ### a row tells what is due -/
section
variable {r a : D} {st : Sto} {n : Int} {x2 x3 x4 : Option D}
theorem rs3 {h : D} {nn : Nat} (p : Pl nn h) (hnn : nn ≤ 4) (o : attD "height" r st = .ok h st) (f : eIf (tOf (eBin neD (eVar 2) (eLst false aNil))) (eBin ixD (eVar 2) (eC (.int 0))) (eC .non) [some r, some a, x2, x3, x4] st = .ok h st) :
    (sIf (Sim.tNot (tOf (eCall (f__law_like 6) (aCons (eUn (attD "height") (eVar 0)) (aCons (eIf (tOf (eBin neD (eVar 2) (eLst false aNil))) (eBin ixD (eVar 2) (eC (.int 0))) (eC .non)) aNil)) []))) (sRet (eC (.bl false))) sNil) [some r, some a, x2, x3, x4] st = .nx [some r, some a, x2, x3, x4] st := by
  have hl := like p 6 st (by omega)
  generalize hf : eIf (tOf (eBin neD (eVar 2) (eLst false aNil))) (eBin ixD (eVar 2) (eC (.int 0))) (eC .non) = me at *
  simp [o, f, hl]
theorem rs5 {v : D} (e : Sim.brw (f__law_like 6) [v, a] st = .ok (.bl true) st) : (sIf (Sim.tNot (tOf (eCall (Sim.brw (f__law_like 6)) (aCons (eVar 3) (aCons (eVar 1) aNil)) []))) (sRet (eC (.bl false))) sNil) [some r, some a, x2, some v, x4] st = .nx [some r, some a, x2, some v, x4] st := by
  simp [e]
theorem rs6 {v : D} {s1 : Sto} (e : setD v (.int 0) (.tup [.int 7, .int 5]) st = some s1) : (sSetIx (eTup (aCons (eC (.int 7)) (aCons (eC (.int 5)) aNil))) (eVar 3) (eC (.int 0))) [some r, some a, x2, some v, x4] st = .nx [some r, some a, x2, some v, x4] s1 := by
  simp [two_le_line, e]
theorem rs7 {v : D} {s1 : Sto} (i : Sim.isT "list" v st = true) (e : mutD fAppend v [.tup [.int 1, .int 1]] st = .ok .non s1) : (sExpr (eBM "list" (mutD fAppend) (eVar 3) (aCons (eTup (aCons (eC (.int 1)) (aCons (eC (.int 1)) aNil))) aNil))) [some r, some a, x2, some v, x4] st = .nx [some r, some a, x2, some v, x4] s1 := by
  simp [two_le_line, i, e]
end
theorem range_len1 {σ : Sl} {st : Sto} {u : D} {ni : Int} {n : Nat} (h : σ[1]? = some (some u)) (l1 : lenD [u] st = .ok (.int ni) st) (b2 : big ni = true) (t1 : ni.toNat = n) : iRange1 (aCons (eCB lenD (aCons (eVar 1) aNil)) aNil) σ st = .ok (intsL 0 n) st := by
  simp [h, l1, b2, t1]
theorem set_of {m : Em} {i : Nat} {σ σ' : Sl} {d : D} {st st1 : Sto} (h : m σ st = .ok d st1) (hσ : σ.set i (some d) = σ') : sSet i m σ st = .nx σ' st1 := by
  subst hσ
  simp [h]
theorem row_arg {σ : Sl} {i : Nat} {d : D} {st : Sto} (h : σ[i]? = some (some d)) : (aCons (eVar i) aNil) σ st = .ok [d] st := by
  simp [h]
theorem brw_like {xs : List Rat} (hl : xs.length ≤ 1000) {st : Sto} : Sim.brw (f__law_like 6) [.ref st.length, .lst (xs.map fr)] (st ++ [some (.lst (xs.map fr))]) = .ok (.bl true) (st ++ [some (.lst (xs.map fr))]) := by
  have hn := nrs_fr xs
  have hl := like (pl_frs xs hl) 6 [] (by decide)
  generalize xs.map fr = a at *
  unfold Sim.brw
  have hp : [D.ref st.length, .lst a].map (peek (st ++ [some (.lst a)])) = [.lst a, .lst a] := by
    unfold peek
    simp only [List.map_cons, List.map_nil, last_get]
  have hu : D.unds 0 [.lst a, .lst a] = true := NRs.cons (nr_lst' hn) (.cons (nr_lst' hn) .nil) 0
  rw [if_pos (by simp [isRef]), hp, if_pos hu, hl]
  rfl
end K10

set_option exponentiation.threshold 20000
set_option linter.all false
set_option maxRecDepth 100000
set_option maxHeartbeats 4000000
namespace K10
open PySem PySem.Spec PyProof.Rows L2 Sim
/-! ### what is drawn -/
theorem absN (i : Int) : ∃ a : Int, a = (i.natAbs : Nat) ∧ ∀ st, absD [.int i] st = .ok (.int a) st := ⟨_, rfl, fun st => by rw [absD_int, absI]⟩
theorem powT (n : Nat) (h : n ≤ 1000) : ∃ N : Int, N = 10 ^ n ∧ ∀ st, powI (.int 10) (.int n) st = .ok (.int N) st := ⟨_, rfl, fun st => by
  rw [powI_int _ _ _ (by
    unfold powOk
    have : (10 : Int).natAbs < 2 ^ 64 := by decide
    simp [this]
    omega)]
  rfl⟩
theorem nr_step : NR stepD := fun _ => rfl
/-- the stores in which odd values are drawn -/
def Okr (sr : Sto) : Prop := sr = [] ∨ ∃ ds, sr = [some (.lst ds)] ∧ NRs ds
theorem okr_nor {o : Option O} (h : BInv o) {sr : Sto} (k : Okr sr) : NoR (o :: sr) := by
  rcases k with rfl | ⟨ds, rfl, hd⟩
  · exact nr_bag h
  · exact (nr_bag h).app (nr_lst hd)
def odds1 : List D := [.non, .bl true, .bl false, .int 0, .int 1, .str "1", .str "", .str "1/2", .tup [.int 2, .int 4], .tup [.int 1, .int 0], .tup [.int 0, .int 2], .tup [.int 1, .int (-2)], .tup [.int 0, .int 0], .lst [.int 1, .int 2], .tup [.bl true, .int 1], .tup [.int 1, .bl true]]
def odds2 : List D := [.tup [.int 1], .tup [.int 1, .int 2, .int 3], .tup [], .lst [], .tup [.tup [.int 1, .int 1], .int 1], .tup [.int 1, .non], .tup [.str "1", .int 2], .lst [.tup [.int 1, .int 1]], stepD]
theorem plt {n : Nat} {ds : List D} (h : ds.length ≤ 1000) (hd : ∀ d ∈ ds, Pl n d) : Pl (n + 1) (.tup ds) := .tup n _ h hd
end K10

set_option exponentiation.threshold 20000
set_option linter.all false
set_option maxRecDepth 100000
set_option maxHeartbeats 4000000
namespace K10
open PySem PySem.Spec PyProof.Rows L2 Sim
/-! ### bent, spoilt -/
theorem bent_a {a s f : D} {st st' : Sto} {an ad N : Int} (e1 : f__law_full [.ref 0] st = .ok f st') (e2 : f__law_add [a, f] st' = .ok s st') (i0 : ixD s (.int 0) st' = .ok (.int an) st') (i1 : ixD s (.int 1) st' = .ok (.int ad) st') {ab : Int} (ea : absD [.int an] st' = .ok (.int ab) st') (eN : powI (.int 10) (.int 60) st' = .ok (.int N) st') (c1 : ab < N) (c2 : ad < N) :
    m__law_bent [some (.ref 0), some a, none] st = .rt s st' := by
  unfold m__law_bent
  simp [-absD_int, e1, e2, i0, i1, ea, eN, c1, c2]
theorem bent_b {a s f d : D} {st st' s3 : Sto} {an ad N : Int} (e1 : f__law_full [.ref 0] st = .ok f st') (e2 : f__law_add [a, f] st' = .ok s st') (i0 : ixD s (.int 0) st' = .ok (.int an) st') (i1 : ixD s (.int 1) st' = .ok (.int ad) st') {ab : Int} (ea : absD [.int an] st' = .ok (.int ab) st') (eN : powI (.int 10) (.int 60) st' = .ok (.int N) st') (c : ¬ (ab < N ∧ ad < N)) (e3 : f__law_number [.ref 0] st' = .ok d s3) :
    m__law_bent [some (.ref 0), some a, none] st = .rt d s3 := by
  unfold m__law_bent
  by_cases c1 : ab < N
  · have c2 : ¬ ad < N := fun z => c ⟨c1, z⟩
    simp [-absD_int, e1, e2, i0, i1, ea, eN, c1, c2, e3]
  · simp [-absD_int, e1, e2, i0, i1, ea, eN, c1, e3]
theorem bent {o : Option O} (h : BInv o) {a : Rat} (ha : Bd 24 a) : ∃ (x : Rat) (o' : Option O), (∀ sr : Sto, f__law_bent [.ref 0, fr a] (o :: sr) = .ok (fr x) (o' :: sr)) ∧ BInv o' ∧ Bd 200 x := by
  obtain ⟨f, o1, e1, b1, hf⟩ := full h
  obtain ⟨N, hN, eN⟩ := powT 60 (by decide)
  obtain ⟨ab, hab, ea⟩ := absN (a + f).num
  have e2 := law_add ha hf (by decide)
  have bs := bd_add ha hf (by decide)
  by_cases c : ab < N ∧ ((a + f).den : Int) < N
  · refine ⟨a + f, o1, fun sr => ?_, b1, bs.up (by decide)⟩
    unfold f__law_bent
    refine def_rt rfl ?_ (by simp)
    exact bent_a (e1 sr) (e2 _) (fr0 _ _) (fr1 _ _) (ea _) (eN _) c.1 c.2
  · obtain ⟨y, o2, e3, b2, hy⟩ := num b1
    refine ⟨y, o2, fun sr => ?_, b2, hy.up (by decide)⟩
    unfold f__law_bent
    refine def_rt rfl ?_ (by simp)
    exact bent_b (e1 sr) (e2 _) (fr0 _ _) (fr1 _ _) (ea _) (eN _) c (e3 sr)
/-! ### orders -/
/-- no order: no integer, or one that is too small or too great -/
def NOrd (d : D) : Prop := (∃ b1 b2, Pt d b1 b2 ∧ (b1 && !b2) = false) ∨ ∃ i : Int, d = .int i ∧ ¬ (2 ≤ i ∧ i ≤ 24)
theorem nord_no {d : D} (h : NOrd d) (st : Sto) : f_is_order [d] st = .ok (.bl false) st := by
  rcases h with ⟨b1, b2, h1, h2⟩ | ⟨i, rfl, h⟩
  · exact nord h1 h2 st
  · rw [isord, decide_eq_false h]
/-! ### rows -/
theorem compF_1 (i : Nat) (e : Em) (σ : Sl) (d : D) (st : Sto) : compF [i] (gN i) tTrue e σ d st = (match e ((wipeD σ [i]).set i (some d)) st with
    | .ok y st3 => .ok (some y) st3
    | _ => .bad) := rfl
theorem nums_comp {i : Nat} {σ : Sl} (h0 : (wipeD σ [i])[0]? = some (some (.ref 0))) (hi : 0 ≠ i) : ∀ (m : Nat) (lo : Int) (o : Option O), BInv o → ∃ (ys : List Rat) (o' : Option O), (∀ sr : Sto, compM (compF [i] (gN i) tTrue (eCall f__law_number (aCons (eVar 0) aNil) []) σ) (intsL lo m) (o :: sr) = .ok (ys.map fr) (o' :: sr)) ∧ BInv o' ∧ BdL 24 ys ∧ ys.length = m
  | 0, _, o, h => ⟨[], o, (fun _ => rfl), h, (fun x hx => by cases hx), rfl⟩
  | m + 1, lo, o, h => by
    obtain ⟨x, o1, e1, b1, hx⟩ := num h
    obtain ⟨ys, o', e2, b2, hy, hl⟩ := nums_comp h0 hi m (lo + 1) o1 b1
    refine ⟨x :: ys, o', fun sr => ?_, b2, fun z hz => ?_, by simp [hl]⟩
    · rw [intsL_cons]
      unfold compM
      have e : compF [i] (gN i) tTrue (eCall f__law_number (aCons (eVar 0) aNil) []) σ (.int lo) (o :: sr) = .ok (some (fr x)) (o1 :: sr) := by
        have q : ((wipeD σ [i]).set i (some (.int lo)))[0]? = some (some (.ref 0)) := by
          rw [List.getElem?_set_ne (Ne.symm hi)]
          exact h0
        have e3 := e1 sr
        rw [compF_1]
        generalize fr x = fx at *
        simp [q, e3]
      rw [e]
      simp only [e2 sr]
      rfl
    · rcases List.mem_cons.mp hz with rfl | q
      · exact hx
      · exact hy z q
end K10

set_option exponentiation.threshold 20000
set_option linter.all false
set_option maxRecDepth 100000
set_option maxHeartbeats 4000000
namespace K10
open PySem PySem.Spec PyProof.Rows L2 Sim
theorem seq_rt {a b : Sm} {σ : Sl} {st st1 : Sto} {d : D} (h : a σ st = .rt d st1) : sSeq a b σ st = .rt d st1 := by
  show (a σ st).seq b = _
  rw [h]
  rfl
theorem bin_of {g : D → D → Sto → Res D} {σ : Sl} {i j : Nat} {x y : D} {st : Sto} (h1 : σ[i]? = some (some x)) (h2 : σ[j]? = some (some y)) : eBin g (eVar i) (eVar j) σ st = g x y st := by
  simp [h1, h2]
theorem opd {f : List D → Sto → Res D} (xs ys : List Rat) (st : Sto) : opD "Row" f (rowD xs) (rowD ys) st = f [rowD xs, rowD ys] st := by
  unfold opD
  rw [if_pos ⟨isc_row xs st, isc_row ys st⟩]
section
variable {a b u w : D} {st : Sto} {x4 x5 x6 : Option D}
theorem ps_if {t e : Sm} {n m : Int} (l1 : lenD [a] st = .ok (.int n) st) (l2 : lenD [b] st = .ok (.int m) st) : (sIf (tOf (eBin neD (eCB lenD (aCons (eVar 0) aNil)) (eCB lenD (aCons (eVar 1) aNil)))) t e) [some a, some b, some u, some w, none, none, none] st = if n = m then e [some a, some b, some u, some w, none, none, none] st else t [some a, some b, some u, some w, none, none, none] st := by
  by_cases c : n = m
  · rw [if_pos c]
    simp [l1, l2, neD_int, decide_eq_true c]
  · rw [if_neg c]
    simp [l1, l2, neD_int, decide_eq_false c]
end
theorem zip_neg : ∀ xs ys : List Rat, List.zipWith (· + ·) xs (ys.map (- ·)) = List.zipWith (· - ·) xs ys
  | [], _ => by simp
  | _ :: _, [] => by simp
  | x :: xs, y :: ys => by
    simp only [List.map_cons, List.zipWith_cons_cons, zip_neg xs ys]
    congr 1
    exact (Rat.sub_eq_add_neg x y).symm
end K10

set_option exponentiation.threshold 20000
set_option linter.all false
set_option maxRecDepth 100000
set_option maxHeartbeats 4000000
namespace K10
open PySem PySem.Spec PyProof.Rows L2 Sim
section
variable {m : Str} {f : List D → Sto → Res D} {u x : D} {σ : Sl} {st : Sto} {j : Nat}
theorem me1 (io : insOf "Row" m u st = true) (h2 : σ[2]? = some (some u)) (hj : σ[j]? = some (some x)) : eMeth "Row" m f (eVar 2) (aCons (eVar j) aNil) σ st = f [u, x] st := by
  simp [eMeth, h2, hj, io]
theorem me1K (io : insOf "Row" m u st = true) (h2 : σ[2]? = some (some u)) (hj : σ[j]? = some (some x)) : eMethK "Row" m f 1 false (eVar 2) (aCons (eVar j) aNil) σ st = f [u, x] st := by
  simp [eMethK, h2, hj, io, gB]
theorem meE {me : Em} (io : insOf "Row" m u st = true) (h2 : σ[2]? = some (some u)) (e : me σ st = .ok x st) : eMeth "Row" m f (eVar 2) (aCons me aNil) σ st = f [u, x] st := by
  simp [eMeth, h2, e, io]
theorem meN {me : Em} (e : me σ st = .ok x st) (io : insOf "Row" m x st = true) : eMeth "Row" m f me aNil σ st = f [x] st := by
  simp [eMeth, e, io]
theorem meX {me : Em} {xx : Exn} {s1 : Sto} (e : me σ st = .exc xx s1) : eMeth "Row" m f me aNil σ st = .exc xx s1 := by
  simp [eMeth, e]
end
theorem und_ {f : List D → Sto → Res D} (xs : List Rat) (st : Sto) : unD "Row" f (rowD xs) st = f [rowD xs] st := by
  unfold unD
  rw [if_pos (isc_row xs st)]
section
variable {a u c d : D} {st : Sto} {x3 x4 x5 x6 x7 x10 : Option D}
theorem os5 {r : Int} {s1 : Sto} (e : f__law_draw [.ref 0, .int 23] st = .ok (.int r) s1) : (sSet 3 (eBin addD (eC (.int 2)) (eCall f__law_draw (aCons (eVar 0) (aCons (eC (.int 23)) aNil)) []))) [some (.ref 0), some a, some u, none, none, none, none, none, some c, some d, none] st = .nx [some (.ref 0), some a, some u, some (.int (2 + r)), none, none, none, none, some c, some d, none] s1 := by
  simp [e]
theorem os_two {i : Nat} {m1 m2 : Em} {v w : D} {σ σ' : Sl} (e1 : m1 σ st = .ok v st) (e2 : m2 σ st = .ok w st) (h : σ.set i (some (.lst [v, w])) = σ') : (sSet i (eLst false (aCons m1 (aCons m2 aNil)))) σ st = .nx σ' st := by
  subst h
  have k : ∀ s, mkL false [v, w] s = .ok (.lst [v, w]) s := fun s => mkF _ (by simp) s
  simp [-mkL_val, e1, e2, k]
theorem os7 {k n : Int} {v : D} (l : lenD [a] st = .ok (.int n) st) (h : (k < n ∧ ∃ p, slD false a none (some (k + 1)) st = .ok p st ∧ v = .lst [.str "told", p]) ∨ (¬ k < n ∧ v = .lst [.str "OrderTooLow", .int (n - 1), .int k])) :
    (sSet 5 (eIf (tOf (eBin ltI (eVar 3) (eCB lenD (aCons (eVar 1) aNil)))) (eLst false (aCons (eC (.str "told")) (aCons (eSl false (eVar 1) pNone (pSome (eBin addD (eVar 3) (eC (.int 1))))) aNil))) (eLst false (aCons (eC (.str "OrderTooLow")) (aCons (eBin subI (eCB lenD (aCons (eVar 1) aNil)) (eC (.int 1))) (aCons (eVar 3) aNil)))))) [some (.ref 0), some a, some u, some (.int k), x4, none, none, none, some c, some d, none] st = .nx [some (.ref 0), some a, some u, some (.int k), x4, some v, none, none, some c, some d, none] st := by
  rcases h with ⟨h1, p, h2, rfl⟩ | ⟨h1, rfl⟩
  · have k2 : ∀ s, mkL false [.str "told", p] s = .ok (.lst [.str "told", p]) s := fun s => mkF _ (by simp) s
    simp [-mkL_val, l, h1, eSl, h2, k2]
  · have k3 : ∀ s, mkL false [.str "OrderTooLow", .int (n - 1), .int k] s = .ok (.lst [.str "OrderTooLow", .int (n - 1), .int k]) s := fun s => mkF _ (by simp) s
    simp [-mkL_val, l, h1, k3]
theorem os10 {w : D} {me : Em} (e : me [some (.ref 0), some a, some u, x3, x4, x5, some w, none, some c, some d, none] st = .ok (.lst [.str "InvalidOrder", w]) st) (hl : f__law_like 6 [.lst [.str "InvalidOrder", w], .lst [.str "InvalidOrder", w]] st = .ok (.bl true) st) :
    (sIf (Sim.tNot (tOf (eCall (f__law_like 6) (aCons me (aCons (eLst false (aCons (eC (.str "InvalidOrder")) (aCons (eVar 6) aNil))) aNil)) []))) (sRet (eC (.bl false))) sNil) [some (.ref 0), some a, some u, x3, x4, x5, some w, none, some c, some d, none] st = .nx [some (.ref 0), some a, some u, x3, x4, x5, some w, none, some c, some d, none] st := by
  have k : ∀ s, mkL false [.str "InvalidOrder", w] s = .ok (.lst [.str "InvalidOrder", w]) s := fun s => mkF _ (by simp) s
  simp [-mkL_val, e, k, hl]
theorem os11 {w v : D} {n N : Int} {s1 : Sto} (l : lenD [a] st = .ok (.int n) st) (eN : powI (.int 10) (.int 20) st = .ok (.int N) st) (e : f__law_of [.ref 0, .lst [.int (-1), .int n, .non, .bl true, .bl false, .str "0", .tup [.int 0, .int 1], .lst [.int 1], .int N, .int (-n)]] st = .ok v s1) :
    (sSet 7 (eCall f__law_of (aCons (eVar 0) (aCons (eLst false (aCons (eUn negI (eC (.int 1))) (aCons (eCB lenD (aCons (eVar 1) aNil)) (aCons (eC .non) (aCons (eC (.bl true)) (aCons (eC (.bl false)) (aCons (eC (.str "0")) (aCons (eTup (aCons (eC (.int 0)) (aCons (eC (.int 1)) aNil))) (aCons (eLst false (aCons (eC (.int 1)) aNil)) (aCons (eBin powI (eC (.int 10)) (eC (.int 20))) (aCons (eUn negI (eCB lenD (aCons (eVar 1) aNil))) aNil))))))))))) aNil)) [])) [some (.ref 0), some a, some u, x3, x4, x5, some w, none, some c, some d, none] st = .nx [some (.ref 0), some a, some u, x3, x4, x5, some w, some v, some c, some d, none] s1 := by
  have k1 : ∀ s, mkL false [.int 1] s = .ok (.lst [.int 1]) s := fun s => mkF _ (by simp) s
  have k10 : ∀ s, mkL false [.int (-1), .int n, .non, .bl true, .bl false, .str "0", .tup [.int 0, .int 1], .lst [.int 1], .int N, .int (-n)] s = .ok (.lst [.int (-1), .int n, .non, .bl true, .bl false, .str "0", .tup [.int 0, .int 1], .lst [.int 1], .int N, .int (-n)]) s := fun s => mkF _ (by simp) s
  simp [-mkL_val, l, eN, two_le_line, k1, k10, e]
end
end K10

set_option exponentiation.threshold 20000
set_option linter.all false
set_option maxRecDepth 100000
set_option maxHeartbeats 4000000
namespace K10
open PySem PySem.Spec PyProof.Rows L2 Sim
open PySem.PyData (strOk)
theorem pl_two {n : Nat} {a b : D} (ha : Pl n a) (hb : Pl n b) : Pl (n + 1) (.lst [a, b]) := plL (by simp) (by simp; exact ⟨ha, hb⟩)
theorem pl_str (n : Nat) {s : Str} (h : strOk s = true) : Pl n (.str s) := .str _ _ (shaped_str h)
theorem sl3 {σ : Sl} {d e : D} {st : Sto} (h : σ[1]? = some (some d)) (s : slD false d none (some 3) st = .ok e st) : (eSl false (eVar 1) pNone (pSome (eC (.int 3)))) σ st = .ok e st := by
  simp [eSl, h, s]
end K10

set_option exponentiation.threshold 20000
set_option linter.all false
set_option maxRecDepth 100000
set_option maxHeartbeats 4000000
namespace K10
open PySem PySem.Spec PyProof.Rows L2 Sim
open PySem.PyData (strOk)
/-! ### constant rows -/
theorem zeros_rep : ∀ (n k : Nat), (List.replicate n [D.tup [.int 0, .int 1]]).flatten = (tab k n (fun _ => 0)).map fr
  | 0, _ => rfl
  | n + 1, k => by
    rw [List.replicate_succ, List.flatten_cons, zeros_rep n (k + 1)]
    rfl
theorem rep_zeros {g : Int} {n : Nat} (hg : g = (n : Nat)) (hn : n ≤ 1000) (s : Sto) : repL false (.lst [.tup [.int 0, .int 1]]) (.int g) s = .ok (.lst ((tab 0 n (fun _ => 0)).map fr)) s := by
  show (if (decide (-(2 ^ 63) ≤ g) && (decide (g < 2 ^ 63) && decide ([D.tup [.int 0, .int 1]].length * g.toNat ≤ line))) = true then mkL false (List.replicate g.toNat [D.tup [.int 0, .int 1]]).flatten s else .bad) = _
  have c1 : -(2 ^ 63) ≤ g := by omega
  have c2 : g < 2 ^ 63 := by omega
  have e : g.toNat = n := by omega
  have c3 : [D.tup [.int 0, .int 1]].length * g.toNat ≤ line := by
    show 1 * g.toNat ≤ line
    have : line = 16777216 := rfl
    omega
  rw [decide_eq_true c1, decide_eq_true c2, decide_eq_true c3, e, zeros_rep n 0]
  exact (if_pos rfl).trans (mkE _ (by rw [tab_len]; omega) s)
abbrev cRow (x : Rat) (n : Nat) : List Rat := x :: tab 0 n (fun _ => 0)
theorem cat_row {x : Rat} {n : Nat} (hn : n ≤ 900) (s : Sto) : catL false (.lst [fr x]) (.lst ((tab 0 n (fun _ => 0)).map fr)) s = .ok (.lst ((cRow x n).map fr)) s := by
  rw [catE]
  exact mkE (cRow x n) (by simp [tab_len]; omega) s
theorem const_ma {f zz dd : D} {k : Int} {n : Nat} {zs : List D} {st : Sto} (b : big k = true) (t : k.toNat = n) (cc : compM (compF [2] (gN 2) tTrue (eC (.tup [.int 0, .int 1])) [some f, some (.int k), none]) (intsL 0 n) st = .ok zs st) (m : mkL false zs st = .ok zz st) (c : catL false (.lst [f]) zz st = .ok dd st) :
    (aCons (eBin (catL false) (eLst false (aCons (eVar 0) aNil)) (eComp false [2] (iRange1 (aCons (eVar 1) aNil)) (gN 2) tTrue (eC (.tup [.int 0, .int 1])))) aNil) [some f, some (.int k), none] st = .ok [dd] st := by
  have k1 : ∀ s, mkL false [f] s = .ok (.lst [f]) s := fun s => mkF _ (by simp) s
  simp [-mkL_val, k1, eComp, b, t, cc, m, c]
/-! ### the turns of `_law_constant_so` -/
section
variable {c s t u : D} {st : Sto} {b : D}
theorem co7 {x : D} (n : notN x .non st = .ok (.bl true) st) (hl : f__law_like 6 [.lst [x, x], .lst [x, x]] st = .ok (.bl true) st) :
    (sIf (tOf (eBin notN (eVar 5) (eC .non))) (sRet (eCall (f__law_like 6) (aCons (eLst false (aCons (eVar 3) (aCons (eVar 4) aNil))) (aCons (eLst false (aCons (eVar 5) (aCons (eVar 5) aNil))) aNil)) [])) sNil) [some b, some c, some s, some x, some x, some x] st = .rt (.bl true) st := by
  have k1 : ∀ z, mkL false [x, x] z = .ok (.lst [x, x]) z := fun z => mkF _ (by simp) z
  simp [-mkL_val, n, k1, hl]
theorem co8 {x : D} (i : ixD t (.int 0) st = .ok (.str "told") st) (n : neD (.str "told") (.str "told") st = .ok (.bl false) st) :
    (sIf (tOr (tOf (eBin neD (eBin ixD (eVar 3) (eC (.int 0))) (eC (.str "told")))) (tOf (eBin neD (eBin ixD (eVar 4) (eC (.int 0))) (eC (.str "told"))))) (sRet (eC (.bl false))) sNil) [some b, some c, some s, some t, some t, some .non] st = .nx [some b, some c, some s, some t, some t, some .non] st := by
  simp [i, n]
end
theorem notN_lst (ds : List D) (st : Sto) : notN (.lst ds) .non st = .ok (.bl true) st := rfl
theorem ix_snd (a b : D) (st : Sto) : ixD (.lst [a, b]) (.int 1) st = .ok b st := rfl
theorem ne_told (st : Sto) : neD (.str "told") (.str "told") st = .ok (.bl false) st := by
  have s : SeqAt.shaped (.str "told") = true := by decide +kernel
  have e : PyData.eqv (.str "told") (.str "told") = true := by decide +kernel
  show (if (SeqAt.shaped (.str "told") && SeqAt.shaped (.str "told")) = true then Res.ok (D.bl (!PyData.eqv (.str "told") (.str "told"))) st else .bad) = _
  rw [s, e]
  rfl
end K10

set_option exponentiation.threshold 20000
set_option linter.all false
set_option maxRecDepth 100000
set_option maxHeartbeats 4000000
namespace K10
open PySem PySem.Spec PyProof.Rows L2 Sim
open PySem.PyData (strOk)
/-! ### what is refused -/
/-- the places at which something is no fraction -/
def bi (k : Nat) : List Bool → List Int
  | [] => []
  | b :: r => if b = true then bi (k + 1) r else (k : Nat) :: bi (k + 1) r
theorem bi_head : ∀ (bs : List Bool) (k : Nat), (bi k bs).head? = (fb bs).map fun i => (((k + i : Nat)) : Int)
  | [], _ => rfl
  | b :: bs, k => by
    rw [fb_c]
    by_cases h : b = true
    · rw [if_pos h]
      show (if b = true then bi (k + 1) bs else (k : Nat) :: bi (k + 1) bs).head? = _
      rw [if_pos h, bi_head bs (k + 1)]
      cases fb bs with
      | none => rfl
      | some i =>
        show some (((k + 1 + i : Nat)) : Int) = some (((k + (i + 1) : Nat)) : Int)
        rw [show k + 1 + i = k + (i + 1) by omega]
    · rw [if_neg h]
      show (if b = true then bi (k + 1) bs else (k : Nat) :: bi (k + 1) bs).head? = _
      rw [if_neg h]
      rfl
theorem bi_len : ∀ (bs : List Bool) (k : Nat), (bi k bs).length ≤ bs.length
  | [], _ => Nat.le_refl _
  | b :: bs, k => by
    show (if b = true then bi (k + 1) bs else (k : Nat) :: bi (k + 1) bs).length ≤ _
    have := bi_len bs (k + 1)
    split <;> simp <;> omega
theorem compBi {f : D → Sto → Res (Option D)} {st : Sto} : ∀ (bs : List Bool) (k : Nat) (lo : Int), lo = (k : Nat) → (∀ i (ii : Int) b, bs[i]? = some b → ii = ((k + i : Nat) : Int) → f (.int ii) st = .ok (if b = true then none else some (.int ii)) st) → compM f (intsL lo bs.length) st = .ok ((bi k bs).map .int) st
  | [], _, _, _, _ => rfl
  | b :: bs, k, lo, hlo, h => by
    show compM f (intsL lo (bs.length + 1)) st = _
    rw [intsL_cons]
    unfold compM
    have e := h 0 lo b rfl (by omega)
    have ih := compBi bs (k + 1) (lo + 1) (by omega) fun i ii y h1 h2 => h (i + 1) ii y (by simpa using h1) (by omega)
    by_cases c : b = true
    · rw [if_pos c] at e
      rw [e]
      simp only [ih]
      show _ = Res.ok ((if b = true then bi (k + 1) bs else (k : Nat) :: bi (k + 1) bs).map D.int) st
      rw [if_pos c]
    · rw [if_neg c] at e
      rw [e]
      simp only [ih]
      show _ = Res.ok ((if b = true then bi (k + 1) bs else (k : Nat) :: bi (k + 1) bs).map D.int) st
      rw [if_neg c, hlo]
      rfl
section
variable {d : D} {x : D} {st : Sto} {y z : Option D}
theorem rf1 (i : isiD (isB2 "list" "tuple" clsL) d st = .ok (.bl true) st) :
    (sIf (Sim.tNot (tOf (eUn (isiD (isB2 "list" "tuple" clsL)) (eVar 0)))) (sRet (eLst false (aCons (eC (.str "InvalidFraction")) (aCons (eUn negI (eC (.int 1))) aNil)))) sNil) [some d, some x, y, z] st = .nx [some d, some x, y, z] st := by
  simp [i]
theorem rf1_no (i : isiD (isB2 "list" "tuple" clsL) d st = .ok (.bl false) st) :
    (sIf (Sim.tNot (tOf (eUn (isiD (isB2 "list" "tuple" clsL)) (eVar 0)))) (sRet (eLst false (aCons (eC (.str "InvalidFraction")) (aCons (eUn negI (eC (.int 1))) aNil)))) sNil) [some d, some x, y, z] st = .rt (.lst [.str "InvalidFraction", .int (-1)]) st := by
  have k1 : ∀ s, mkL false [.str "InvalidFraction", .int (-1)] s = .ok (.lst [.str "InvalidFraction", .int (-1)]) s := fun s => mkF _ (by simp) s
  simp [-mkL_val, i, k1]
theorem rf4 {u : D} (e : eqD u (.lst []) st = .ok (.bl true) st) : (sRet (eIf (tOf (eBin eqD (eVar 2) (eLst false aNil))) (eC .non) (eLst false (aCons (eC (.str "InvalidFraction")) (aCons (eBin ixD (eVar 2) (eC (.int 0))) aNil))))) [some d, some x, some u, z] st = .rt .non st := by
  have k0 : ∀ s, mkL false [] s = .ok (.lst []) s := fun s => mkF _ (by simp) s
  simp [-mkL_val, k0, e]
theorem rf4_no {u v : D} (e : eqD u (.lst []) st = .ok (.bl false) st) (i : ixD u (.int 0) st = .ok v st) : (sRet (eIf (tOf (eBin eqD (eVar 2) (eLst false aNil))) (eC .non) (eLst false (aCons (eC (.str "InvalidFraction")) (aCons (eBin ixD (eVar 2) (eC (.int 0))) aNil))))) [some d, some x, some u, z] st = .rt (.lst [.str "InvalidFraction", v]) st := by
  have k0 : ∀ s, mkL false [] s = .ok (.lst []) s := fun s => mkF _ (by simp) s
  have k1 : ∀ s, mkL false [.str "InvalidFraction", v] s = .ok (.lst [.str "InvalidFraction", v]) s := fun s => mkF _ (by simp) s
  simp [-mkL_val, k0, e, i, k1]
end
section
end
theorem pl_say (s : Str) (h : strOk s = true) (i : Int) : Pl 1 (.lst [.str s, .int i]) := pl_two (pl_str _ h) (.int _ _)
theorem nr_int (i : Int) : NR (.int i) := fun _ => rfl
section
end
end K10

set_option exponentiation.threshold 20000
set_option linter.all false
set_option maxRecDepth 100000
set_option maxHeartbeats 4000000
namespace K10
open PySem PySem.Spec PyProof.Rows L2 Sim
open PySem.PyData (strOk)
/-! ### lists that are drawn -/
theorem ne_nil (xs : List Rat) (st : Sto) : neD (.lst (xs.map fr)) (.lst []) st = .ok (.bl (!xs.isEmpty)) st := by
  have e1 : Sim.pyOf (.lst (xs.map fr)) st = some (.list (xs.map pf)) := by
    show (D.pys (xs.map fr)).map PyData.list = _
    rw [pys_fr]
    rfl
  have e2 : Sim.pyOf (.lst []) st = some (.list []) := rfl
  unfold neD
  rw [e1, e2]
  show (if (SeqAt.shaped (.list (xs.map pf)) && SeqAt.shaped (.list [])) = true then Res.ok (D.bl (!PyData.eqv (.list (xs.map pf)) (.list []))) st else .bad) = _
  have s2 : SeqAt.shaped (.list []) = true := by decide +kernel
  have s3 : PyData.eqv (.list (xs.map pf)) (.list []) = xs.isEmpty := by cases xs <;> rfl
  rw [shape_fr, s2, s3]
  rfl
theorem ne_ref (xs : List Rat) (o : Option O) : brw2 neD (.ref 1) (.lst []) [o, some (.lst (xs.map fr))] = .ok (.bl (!xs.isEmpty)) [o, some (.lst (xs.map fr))] := by
  have hp : peek [o, some (.lst (xs.map fr))] (.ref 1) = .lst (xs.map fr) := rfl
  have hp2 : peek [o, some (.lst (xs.map fr))] (.lst []) = .lst [] := rfl
  have hu : D.und 0 (.lst (xs.map fr)) = true := nr_lst' (nrs_fr xs) 0
  have hu2 : D.und 0 (.lst []) = true := nr_lst' .nil 0
  have hn := ne_nil xs []
  unfold brw2
  rw [if_pos (by rfl), hp, hp2, hu, hu2, hn]
  rfl
/-! ### the turns of `_law_list` -/
section
variable {d x v : D} {st s1 s2 : Sto} {x1 x2 x3 x4 : Option D}
theorem ls1 {k : Int} (e : f__law_draw [.ref 0, .int 9] st = .ok (.int k) s1) : (sSet 1 (eCall f__law_draw (aCons (eVar 0) (aCons (eC (.int 9)) aNil)) [])) [some (.ref 0), none, none, none, none] st = .nx [some (.ref 0), some (.int k), none, none, none] s1 := by
  simp [e]
def fixL (s : D) : List D := [.non, .bl true, .int 3, .str "", .str "11", .str "1 2 3", s, .tup [.int 1, .int 2], .tup [.int 1, .int 1], .lst [], .tup [], .lst [.lst []], .tup [.tup [.int 1, .int 2], .tup [.int 1, .int 3]]]
theorem ls4 {n : Int} {m : Nat} {ys : List D} {z : D} (b : big n = true) (t : n.toNat = m) (ec : compM (compF [4] (gN 4) tTrue (eCall f__law_number (aCons (eVar 0) aNil) []) [some (.ref 0), x1, some (.int n), none, none]) (intsL 0 m) st = .ok ys s1) (mk : mkL true ys s1 = .ok z s2) :
    (sSet 3 (eComp true [4] (iRange1 (aCons (eVar 2) aNil)) (gN 4) tTrue (eCall f__law_number (aCons (eVar 0) aNil) []))) [some (.ref 0), x1, some (.int n), none, none] st = .nx [some (.ref 0), x1, some (.int n), some z, none] s2 := by
  simp [-mkL_ref, eComp, b, t, ec, mk]
theorem ls6 {z w : D} {r : Int} (e : f__law_draw [.ref 0, .int 3] st = .ok (.int r) s1) (h : (r = 0 ∧ tupleD [z] s1 = .ok w s1) ∨ (¬ r = 0 ∧ w = z)) : (sRet (eIf (tOf (eBin eqD (eCall f__law_draw (aCons (eVar 0) (aCons (eC (.int 3)) aNil)) []) (eC (.int 0)))) (eCB tupleD (aCons (eVar 3) aNil)) (eVar 3))) [some (.ref 0), x1, x2, some z, x4] st = .rt w s1 := by
  rcases h with ⟨c, h⟩ | ⟨c, rfl⟩
  · simp [e, eqD_int, decide_eq_true c, h]
  · simp [e, eqD_int, decide_eq_false c]
end
/-- the end of a def that was called with the bag alone -/
theorem def_cut1 {k n : Nat} {m : Sm} {as : List D} {d : D} {o o' : Option O} {j : Sto} (hk : as.length = k) (h : m (as.map some ++ List.replicate (n - as.length) none) [o] = .rt d ([o'] ++ j)) (hd : NR d) (hs : NoR [o']) : chk k (runDef n m) as [o] = .ok d [o'] := by
  unfold chk
  rw [if_pos hk]
  unfold runDef
  rw [h]
  exact finR_cut (st := [o']) hd hs
theorem def_ref1 {k n : Nat} {m : Sm} {as : List D} {o o' : Option O} {x : Option O} (hk : as.length = k) (h : m (as.map some ++ List.replicate (n - as.length) none) [o] = .rt (.ref 1) [o', x]) : chk k (runDef n m) as [o] = .ok (.ref 1) [o', x] := by
  unfold chk
  rw [if_pos hk]
  unfold runDef
  rw [h]
  show finR 1 (.ref 1) [o', x] = _
  unfold finR
  have c : D.und 1 (.ref 1) = false := by simp [D.und]
  rw [if_neg (by simp), if_neg (by rw [c]; simp)]
end K10

set_option exponentiation.threshold 20000
set_option linter.all false
set_option maxRecDepth 100000
set_option maxHeartbeats 4000000
namespace K10
open PySem PySem.Spec PyProof.Rows L2 Sim
open PySem.PyData (strOk)
theorem at_some {ds : List D} {i : Nat} {ii : Int} {x : D} (h : ds[i]? = some x) (hi : ii = (i : Nat)) : atI ds ii = some x := by
  have hl : i < ds.length := by
    obtain ⟨z, _⟩ := List.getElem?_eq_some_iff.mp h
    exact z
  have e : ii.toNat = i := by omega
  unfold atI ixN
  rw [if_pos (by omega), if_pos (by omega), e]
  exact h
theorem ix_tup (ds : List D) (st : Sto) : ∀ i (ii : Int) x, ds[i]? = some x → ii = (i : Nat) → ixD (.tup ds) (.int ii) st = .ok x st := fun i ii x h hi => by
  have e : ixD (.tup ds) (.int ii) st = (match atI ds ii with | some d => Res.ok d st | none => .bad) := rfl
  rw [e, at_some h hi]
theorem ix_one (ds : List D) (o : Option O) : ∀ i (ii : Int) x, ds[i]? = some x → ii = (i : Nat) → ixD (.ref 1) (.int ii) [o, some (.lst ds)] = .ok x [o, some (.lst ds)] := fun i ii x h hi => by
  have e : ixD (.ref 1) (.int ii) [o, some (.lst ds)] = (match atI ds ii with | some d => Res.ok d [o, some (.lst ds)] | none => .bad) := rfl
  rw [e, at_some h hi]
theorem fix_nr {d : D} (h : d ∈ fixL stepD) : NR d := by
  unfold fixL at h
  simp only [List.mem_cons, List.not_mem_nil, or_false] at h
  rcases h with rfl | rfl | rfl | rfl | rfl | rfl | rfl | rfl | rfl | rfl | rfl | rfl | rfl <;> exact fun _ => rfl
theorem nr_tup' {ds : List D} (h : NRs ds) : NR (.tup ds) := fun n => by simpa [D.und] using h n
/-! ### `_law_made_so` -/
section
variable {b d u w t : D} {st s1 s2 : Sto} {x3 x4 x5 : Option D}
theorem mo3 {m1 m2 : Em} (n : notN t .non st = .ok (.bl true) st) (e1 : m1 [some (.ref 0), some d, some t, none, none, none] st = .ok t st) (e2 : m2 [some (.ref 0), some d, some t, none, none, none] st = .ok t st) (hl : f__law_like 6 [.lst [t, t], .lst [t, t]] st = .ok (.bl true) st) :
    (sIf (tOf (eBin notN (eVar 2) (eC .non))) (sRet (eCall (f__law_like 6) (aCons (eLst false (aCons m1 (aCons m2 aNil))) (aCons (eLst false (aCons (eVar 2) (aCons (eVar 2) aNil))) aNil)) [])) sNil) [some (.ref 0), some d, some t, none, none, none] st = .rt (.bl true) st := by
  have k1 : ∀ z, mkL false [t, t] z = .ok (.lst [t, t]) z := fun z => mkF _ (by simp) z
  simp [-mkL_val, n, e1, e2, k1, hl]
theorem mo3_n {s : Sm} : (sIf (tOf (eBin notN (eVar 2) (eC .non))) s sNil) [some (.ref 0), some d, some .non, none, none, none] st = .nx [some (.ref 0), some d, some .non, none, none, none] st := by
  have n : notN .non .non st = .ok (.bl false) st := rfl
  simp [n]
theorem mo4 (e : listD false [d] st = .ok t st) : (sSet 3 (eCB (listD false) (aCons (eVar 1) aNil))) [some (.ref 0), some d, some .non, none, none, none] st = .nx [some (.ref 0), some d, some .non, some t, none, none] st := by
  simp [e]
theorem mo5 {m1 m2 : Em} (e1 : m1 [some (.ref 0), some d, some .non, some t, none, none] st = .ok u st) (e2 : m2 [some (.ref 0), some d, some .non, some t, none, none] st = .ok w st) : (sPar 4 5 m1 m2) [some (.ref 0), some d, some .non, some t, none, none] st = .nx [some (.ref 0), some d, some .non, some t, some u, some w] st := by
  simp [e1, e2]
abbrev chgB : Sm := (sIf (tOf (eUn (isiD (isB "list" clsL)) (eVar 1))) (sSeq (sSetIx (eTup (aCons (eC (.int 9)) (aCons (eC (.int 7)) aNil))) (eVar 1) (eCall f__law_draw (aCons (eVar 0) (aCons (eCB lenD (aCons (eVar 1) aNil)) aNil)) [])) (sExpr (eBM "list" (mutD fReverse) (eVar 1) aNil))) sNil)
theorem mo6_n (i : isiD (isB "list" clsL) d st = .ok (.bl false) st) : chgB [some (.ref 0), some d, some .non, x3, x4, x5] st = .nx [some (.ref 0), some d, some .non, x3, x4, x5] st := by
  simp [i]
theorem mo6 {n r : D} {s3 s4 : Sto} (i : isiD (isB "list" clsL) d st = .ok (.bl true) st) (l : lenD [d] st = .ok n st) (e : f__law_draw [.ref 0, n] st = .ok r s2) (e3 : setD d r (.tup [.int 9, .int 7]) s2 = some s3) (ti : Sim.isT "list" d s3 = true) (e4 : mutD fReverse d [] s3 = .ok .non s4) : chgB [some (.ref 0), some d, some .non, x3, x4, x5] st = .nx [some (.ref 0), some d, some .non, x3, x4, x5] s4 := by
  simp [i, two_le_line, l, e, e3, ti, e4]
end
theorem rev_last {st : Sto} {L : List D} : mutD fReverse (.ref st.length) [] (st ++ [some (.lst L)]) = .ok .non (st ++ [some (.lst L.reverse)]) := by
  unfold mutD fReverse wrL
  simp only [last_get, last_set]
end K10

set_option exponentiation.threshold 20000
set_option linter.all false
set_option maxRecDepth 100000
set_option maxHeartbeats 4000000
namespace K10
open PySem PySem.Spec PyProof.Rows L2 Sim
open PySem.PyData (strOk)
/-! ### a step is made -/
theorem lp_lt : ∀ {xs : List Rat} {i : Nat}, lp xs = some i → i < xs.length
  | [], i, h => by cases h
  | x :: xs, i, h => by
    rw [lp_c] at h
    by_cases c : x = 0
    · rw [if_pos c] at h
      obtain ⟨j, hj, rfl⟩ := Option.map_eq_some_iff.mp h
      have := lp_lt hj
      simp
      omega
    · rw [if_neg c] at h
      cases h
      simp
theorem bend {ys : List Rat} (hl : ys.length ≤ 900) (st : Sto) : f__bend_of [.lst ((0 :: ys).map fr)] st = .ok (oD ((lp (ys.drop 1)).map (· + 2))) st := by
  have s := sl_from (ds := (0 :: ys).map fr) (k := 2) (ki := 2) rfl (by simp; omega) st
  rw [← List.map_drop] at s
  have e : (0 :: ys).drop 2 = ys.drop 1 := rfl
  rw [e] at s
  have l := least (ys.drop 1) st _ (.inl rfl)
  generalize lp (ys.drop 1) = o at *
  have key : m__bend_of [some (.lst ((0 :: ys).map fr)), none] st = .rt (oD (o.map (· + 2))) st := by
    generalize D.lst ((0 :: ys).map fr) = a at *
    generalize D.lst ((ys.drop 1).map fr) = b at *
    unfold m__bend_of
    cases o with
    | none =>
      have i : isN .non .non st = .ok (.bl true) st := rfl
      have l' : f_least_place [b] st = .ok .non st := l
      show _ = RS.rt .non st
      simp [eSl, s, l', i]
    | some p =>
      obtain ⟨q, hq⟩ : ∃ q : Int, q = (p : Nat) := ⟨_, rfl⟩
      have l' : f_least_place [b] st = .ok (.int q) st := by rw [hq]; exact l
      have i : isN (.int q) .non st = .ok (.bl false) st := rfl
      have r : oD ((some p).map (· + 2)) = .int (q + 2) := by rw [hq]; rfl
      rw [r]
      simp [eSl, s, l', i]
  unfold f__bend_of
  exact def_rt rfl key (Nat.le_refl _)
abbrev F7 (a b c d e x y : D) : List (Str × D) := [("_numbers", a), ("order", b), ("lead", c), ("height", d), ("kind", e), ("flat", x), ("strength", y)]
theorem nr_F7 {a b c d e x y : D} (h1 : NR a) (h2 : NR b) (h3 : NR c) (h4 : NR d) (h5 : NR e) (h6 : NR x) (h7 : NR y) : NR (.ins "Step" (F7 a b c d e x y)) := fun n => by
  show D.undF n (F7 a b c d e x y) = true
  simp only [D.undF, h1 n, h2 n, h3 n, h4 n, h5 n, h6 n, h7 n, Bool.and_true]
theorem fld {m : Em} {f : Str} {v : D} {σ : Sl} {fs gs : List (Str × D)} {st : Sto} (h0 : σ[0]? = some (some (.ref st.length))) (hm : m σ (st ++ [some (.ins "Step" fs)]) = .ok v (st ++ [some (.ins "Step" fs)])) (hl : fs.length < 1000) (hg : putFD f v fs = gs) : sFldM ["Step"] f m (eVar 0) σ (st ++ [some (.ins "Step" fs)]) = .nx σ (st ++ [some (.ins "Step" gs)]) := by
  have s := setF_last (cs := ["Step"]) (C := "Step") (f := f) (v := v) (fs := fs) (st := st) (by simp) hl
  rw [hg] at s
  simp [hm, h0, s]
theorem at_un {f : Str} {v : D} {σ : Sl} {fs : List (Str × D)} {st : Sto} (h0 : σ[0]? = some (some (.ref st.length))) (h : fs.lookup f = some v) : (eUn (attD f) (eVar 0)) σ (st ++ [some (.ins "Step" fs)]) = .ok v (st ++ [some (.ins "Step" fs)]) := by
  have a := attD_last (C := "Step") (st := st) h
  simp [h0, a]
theorem call1 {f : List D → Sto → Res D} {me : Em} {σ : Sl} {d r : D} {st : Sto} (e : me σ st = .ok d st) (h : f [d] st = .ok r st) : (eCall f (aCons me aNil) []) σ st = .ok r st := by
  simp [e, h]
theorem cb1 {f : List D → Sto → Res D} {i : Nat} {σ : Sl} {d r : D} {st : Sto} (e : σ[i]? = some (some d)) (h : f [d] st = .ok r st) : (eCB f (aCons (eVar i) aNil)) σ st = .ok r st := by
  simp [e, h]
theorem ixv {i : Nat} {me : Em} {σ : Sl} {d z r : D} {st : Sto} (e : σ[i]? = some (some d)) (hm : me σ st = .ok z st) (h : ixD d z st = .ok r st) : (eBin ixD (eVar i) me) σ st = .ok r st := by
  simp [e, hm, h]
theorem un_eq {s t : Str} {me : Em} {σ : Sl} {st : Sto} {b : Bool} (e : me σ st = .ok (.str s) st) (h : eqD (.str s) (.str t) st = .ok (.bl b) st) : (tOf (eBin eqD me (eC (.str t)))) σ st = .ok b st := by
  simp [e, h]
abbrev creepB : Sm := (sIf (tOf (eBin eqD (eUn (attD "kind") (eVar 0)) (eC (.str "creep")))) (sSeq (sSet 2 (eCall f__bend_of (aCons (eUn (attD "_numbers") (eVar 0)) aNil) [])) (sSeq (sFldM ["Step"] "flat" (eBin subI (eVar 2) (eC (.int 1))) (eVar 0)) (sFldM ["Step"] "strength" (eBin ixD (eVar 1) (eBin subI (eVar 2) (eC (.int 1)))) (eVar 0)))) sNil)
abbrev crushB : Sm := (sIf (tOf (eBin eqD (eUn (attD "kind") (eVar 0)) (eC (.str "crush")))) (sFldM ["Step"] "strength" (eBin ixD (eVar 1) (eBin subI (eUn (attD "height") (eVar 0)) (eC (.int 1)))) (eVar 0)) sNil)
theorem if_no {t : Sim.Tm} {a b : Sm} {σ : Sl} {st : Sto} (h : t σ st = .ok false st) : sIf t a b σ st = b σ st := by
  simp [h]
theorem if_yes {t : Sim.Tm} {a b : Sm} {σ : Sl} {st : Sto} (h : t σ st = .ok true st) : sIf t a b σ st = a σ st := by
  simp [h]
theorem drop1_get {ys : List Rat} {i : Nat} (h : i < (ys.drop 1).length) : ∃ z, ys[i + 1]? = some z := by
  rw [List.length_drop] at h
  exact ⟨ys[i + 1]'(by omega), List.getElem?_eq_getElem (by omega)⟩
theorem nr_str (s : Str) : NR (.str s) := fun _ => rfl
theorem nr_non : NR .non := fun _ => rfl
theorem eq_word (s t : Str) (st : Sto) (h1 : strOk s = true) (h2 : strOk t = true) : eqD (.str s) (.str t) st = .ok (.bl (decide (s = t))) st := eqD_str s t st (shaped_str h1) (shaped_str h2)
abbrev mkSt (ma : Am) : Em := eFrz (eMkP "Step" f_Step___init__ 1 0 false ma aNil)
end K10

set_option exponentiation.threshold 20000
set_option linter.all false
set_option maxRecDepth 100000
set_option maxHeartbeats 4000000
namespace K10
open PySem PySem.Spec PyProof.Rows L2 Sim
open PySem.PyData (strOk)
/-! ### the law -/
theorem isP_lst (T : Str) (ds : List D) (st : Sto) : isiD (isP clsL T) (.lst ds) st = .ok (.bl false) st := rfl
theorem isP_tup (T : Str) (ds : List D) (st : Sto) : isiD (isP clsL T) (.tup ds) st = .ok (.bl false) st := rfl
theorem isP_str (T : Str) (s : Str) (st : Sto) : isiD (isP clsL T) (.str s) st = .ok (.bl false) st := rfl
theorem isP_ins {T C : Str} {fs : List (Str × D)} (h1 : C ∈ clsL) (h2 : ¬ C = T) (st : Sto) : isiD (isP clsL T) (.ins C fs) st = .ok (.bl false) st := by
  show (match isP clsL T (.c C) with | some b => Res.ok (D.bl b) st | none => .bad) = _
  have : isP clsL T (.c C) = some false := by
    show (if C ∈ clsL then some (decide (C = T)) else none) = some false
    rw [if_pos h1, decide_eq_false h2]
  rw [this]
theorem okT_ins {C : Str} {fs : List (Str × D)} (h1 : C ∈ clsL) (st : Sto) : okT clsL (.ins C fs) st = true := decide_eq_true h1
theorem okT_lst (ds : List D) (st : Sto) : okT clsL (.lst ds) st = true := by
  show decide ("list" ∈ tyNames) = true
  decide +kernel
theorem okT_tup (ds : List D) (st : Sto) : okT clsL (.tup ds) st = true := by
  show decide ("tuple" ∈ tyNames) = true
  decide +kernel
theorem okT_str (s : Str) (st : Sto) : okT clsL (.str s) st = true := by
  show decide ("str" ∈ tyNames) = true
  decide +kernel
theorem s_eq_no {fs : List (Str × D)} {d : D} (st : Sto) (t : okT clsL d st = true) (i : isiD (isP clsL "Step") d st = .ok (.bl false) st) : eqO "Step" clsL f_Step___eq__ (.ins "Step" fs) d st = .ok (.bl false) st := by
  have c : isC "Step" (.ins "Step" fs) st = true := by
    show decide (("Step" : Str) = "Step") = true
    decide +kernel
  unfold eqO
  rw [if_pos ⟨c, t⟩]
  generalize D.ins "Step" fs = r at *
  unfold f_Step___eq__
  refine def_rt rfl ?_ (Nat.le_refl _)
  show m_Step___eq__ [some r, some d] st = _
  unfold m_Step___eq__
  simp [i]
section
variable {x a b u f : D} {st s1 s2 : Sto} {y2 y3 y4 y5 y6 y7 y8 : Option D}
theorem la3 {k : Int} (e : f__law_draw [.ref 0, .int 6] st = .ok (.int k) s1) : (sSet 4 (eCall f__law_draw (aCons (eVar 1) (aCons (eC (.int 6)) aNil)) [])) [some x, some (.ref 0), y2, y3, y4, some a, some b, y7, y8] st = .nx [some x, some (.ref 0), y2, y3, some (.int k), some a, some b, y7, y8] s1 := by
  simp [e]
theorem la8 {m1 m2 : Em} (e1 : m1 [some x, some (.ref 0), y2, y3, y4, some a, some b, y7, y8] st = .ok u st) (e2 : m2 [some x, some (.ref 0), y2, y3, y4, some a, some b, y7, y8] st = .ok f st) : (sPar 7 8 m1 m2) [some x, some (.ref 0), y2, y3, y4, some a, some b, y7, y8] st = .nx [some x, some (.ref 0), y2, y3, y4, some a, some b, some u, some f] st := by
  simp [e1, e2]
end
theorem tup_arg {i : Nat} {σ : Sl} {ds : List D} {st : Sto} (h : σ[i]? = some (some (.lst ds))) : (eCB tupleD (aCons (eVar i) aNil)) σ st = .ok (.tup ds) st := by
  have e : tupleD [.lst ds] st = .ok (.tup ds) st := rfl
  simp [h, e]
theorem one_arg {me : Em} {σ : Sl} {d : D} {st : Sto} (h : me σ st = .ok d st) : (aCons me aNil) σ st = .ok [d] st := by
  simp [h]
theorem sl_arg {i : Nat} {σ : Sl} {d e : D} {st : Sto} (h : σ[i]? = some (some d)) (s : slD false d (some 1) none st = .ok e st) : (eSl false (eVar i) (pSome (eC (.int 1))) pNone) σ st = .ok e st := by
  simp [eSl, h, s]
theorem cat_arg {me : Em} {σ : Sl} {d e : D} {st : Sto} (h : me σ st = .ok d st) (c : catL false (.lst [.tup [.int 0, .int 1]]) d st = .ok e st) : (eBin (catL false) (eLst false (aCons (eTup (aCons (eC (.int 0)) (aCons (eC (.int 1)) aNil))) aNil)) me) σ st = .ok e st := by
  have k1 : ∀ s, mkL false [.tup [.int 0, .int 1]] s = .ok (.lst [.tup [.int 0, .int 1]]) s := fun s => mkF _ (by simp) s
  simp [-mkL_val, two_le_line, k1, h, c]
theorem me7 {u : D} {m : Str} {f : List D → Sto → Res D} {σ : Sl} {st : Sto} (io : insOf "Row" m u st = true) (h : σ[7]? = some (some u)) : eMeth "Row" m f (eVar 7) aNil σ st = f [u] st := by
  simp [eMeth, h, io]
end K10

set_option exponentiation.threshold 20000
set_option linter.all false
set_option maxRecDepth 100000
set_option maxHeartbeats 4000000
namespace K10
open PySem PySem.Spec PyProof.Rows L2 Sim
open PySem.PyData (strOk)
/-! ### what a step is -/
/-- what is like a list, with its items -/
structure Sx (d : D) (ds : List D) (st : Sto) : Prop where
  sq : Sq d ds st
  ix : ∀ (x : Sto) (i : Nat) (ii : Int) (z : D), ds[i]? = some z → ii = (i : Nat) → ixD d (.int ii) (st ++ x) = .ok z (st ++ x)
theorem ix_lst (ds : List D) (st : Sto) : ∀ i (ii : Int) x, ds[i]? = some x → ii = (i : Nat) → ixD (.lst ds) (.int ii) st = .ok x st := fun i ii x h hi => by
  have e : ixD (.lst ds) (.int ii) st = (match atI ds ii with | some d => Res.ok d st | none => .bad) := rfl
  rw [e, at_some h hi]
theorem ix_ref {n : Nat} {ds : List D} {st : Sto} (h : st[n]? = some (some (.lst ds))) : ∀ i (ii : Int) x, ds[i]? = some x → ii = (i : Nat) → ixD (.ref n) (.int ii) st = .ok x st := fun i ii x hx hi => by
  have e : ixD (.ref n) (.int ii) st = (match itemsOf (.ref n) st with | some ds => (match atI ds ii with | some d => Res.ok d st | none => .bad) | none => .bad) := rfl
  have e2 : itemsOf (.ref n) st = some ds := by unfold itemsOf; simp only [h]
  rw [e, e2]
  show (match atI ds ii with | some d => Res.ok d st | none => .bad) = _
  rw [at_some hx hi]
theorem sx_lst (ds : List D) (st : Sto) : Sx (.lst ds) ds st := ⟨sq_lst ds st, fun x => ix_lst ds (st ++ x)⟩
theorem sx_tup (ds : List D) (st : Sto) : Sx (.tup ds) ds st := ⟨sq_tup ds st, fun x => ix_tup ds (st ++ x)⟩
theorem sx_ref {n : Nat} {ds : List D} {st : Sto} (h : st[n]? = some (some (.lst ds))) (hn : NRs ds) : Sx (.ref n) ds st := ⟨sq_ref h hn, fun x => ix_ref (by
  have hl : n < st.length := by
    obtain ⟨z, _⟩ := List.getElem?_eq_some_iff.mp h
    exact z
  rw [List.getElem?_append_left hl, h])⟩
theorem eq_fr (x y : Rat) (st : Sto) : eqD (fr x) (fr y) st = .ok (.bl (decide (x = y))) st := by
  have e := eqD_tup2 x.num x.den y.num y.den st
  have h : (decide (x.num = y.num) && decide ((x.den : Int) = y.den)) = decide (x = y) := by
    by_cases c : x = y
    · subst c
      simp
    · rw [decide_eq_false c]
      by_cases c1 : x.num = y.num
      · have c2 : ¬ (x.den : Int) = y.den := fun z => c (Rat.ext c1 (by omega))
        rw [decide_eq_false c2, Bool.and_false]
      · rw [decide_eq_false c1, Bool.false_and]
  rw [h] at e
  exact e
def kindS : List Rat → Str
  | [] => "stretch"
  | y :: r => if y = 0 then (if (lp r).isSome = true then "crush" else "nothing") else if y = 1 then (if (lp r).isSome = true then "creep" else "still") else if y = -1 then "flip" else "stretch"
/-- the bend of a creep -/
def bendV : List Rat → Option Nat
  | [] => none
  | y :: r => if y = 1 then lp r else none
def strV : List Rat → D
  | [] => .non
  | y :: r => if y = 0 ∨ y = 1 then (match lp r with
    | some p => fr (r.getD p 0)
    | none => .non) else .non
def stepF (ys : List Rat) : List (Str × D) := F7 (.lst ((0 :: ys).map fr)) (.int (ys.length : Nat)) (fr (ys.headD 0)) (oD ((lp ys).map (· + 1))) (.str (kindS ys)) (oD ((bendV ys).map (· + 1))) (strV ys)
def stepV (ys : List Rat) : D := .ins "Step" (stepF ys)
theorem kindS_c (y : Rat) (r : List Rat) : kindS (y :: r) = if y = 0 then (if (lp r).isSome = true then ("crush" : Str) else ("nothing" : Str)) else if y = 1 then (if (lp r).isSome = true then ("creep" : Str) else ("still" : Str)) else if y = -1 then ("flip" : Str) else ("stretch" : Str) := rfl
theorem kindS_ok (ys : List Rat) : strOk (kindS ys) = true := by
  cases ys with
  | nil => decide +kernel
  | cons y r =>
    rw [kindS_c]
    split
    · split <;> decide +kernel
    · split
      · split <;> decide +kernel
      · split <;> decide +kernel
theorem nr_strV (ys : List Rat) : NR (strV ys) := by
  cases ys with
  | nil => exact nr_non
  | cons y r =>
    show NR (if y = 0 ∨ y = 1 then (match lp r with
      | some p => fr (r.getD p 0)
      | none => .non) else .non)
    split
    · split
      · exact nr_fr _
      · exact nr_non
    · exact nr_non
theorem nr_stepV (ys : List Rat) : NR (stepV ys) := nr_F7 (nr_lst' (nrs_fr _)) (nr_int _) (nr_fr _) (nr_oD _) (nr_str _) (nr_oD _) (nr_strV _)
theorem lp0 (r : List Rat) : lp (0 :: r) = (lp r).map (· + 1) := by rw [lp_c, if_pos rfl]
theorem isN_oD (o : Option Nat) (st : Sto) : isN (oD o) .non st = .ok (.bl (!o.isSome)) st := by cases o <;> rfl
theorem kind_m {a l z k : D} {n b : Bool} {st : Sto} {b0 b1 b2 : Bool} (i1 : ixD a (.int 1) st = .ok l st) (q0 : eqD l (.tup [.int 0, .int 1]) st = .ok (.bl b0) st) (q1 : eqD l (.tup [.int 1, .int 1]) st = .ok (.bl b1) st) (q2 : eqD l (.tup [.int (-1), .int 1]) st = .ok (.bl b2) st)
    (e1 : f_least_place [a] st = .ok z st) (n1 : isN z .non st = .ok (.bl n) st) (e2 : f__bend_of [a] st = .ok k st) (n2 : isN k .non st = .ok (.bl b) st) :
    f__kind_of [a] st = .ok (.str (if b0 = true then (if n = true then "nothing" else "crush") else if b1 = true then (if b = true then "still" else "creep") else if b2 = true then "flip" else "stretch")) st := by
  unfold f__kind_of
  refine def_rt rfl ?_ (Nat.le_refl _)
  show m__kind_of [some a, none] st = _
  unfold m__kind_of
  cases b0 with
  | true => cases n <;> simp [i1, q0, e1, n1]
  | false =>
    cases b1 with
    | true => cases b <;> simp [i1, q0, q1, e2, n2]
    | false => cases b2 <;> simp [i1, q0, q1, q2, two_le_line]
theorem kind_ex {y : Rat} {r : List Rat} (hl : (y :: r).length ≤ 900) (st : Sto) : f__kind_of [.lst ((0 :: y :: r).map fr)] st = .ok (.str (kindS (y :: r))) st := by
  have i1 := ix_fr (0 :: y :: r) (i := 1) (ii := 1) rfl rfl st _ (.inl rfl)
  have l := least (0 :: y :: r) st _ (.inl rfl)
  have b := bend hl st
  have k := kind_m i1 (eq_fr y 0 st) (eq_fr y 1 st) (eq_fr y (-1) st) l (isN_oD _ st) b (isN_oD _ st)
  rw [k]
  congr 2
  rw [kindS_c]
  have hd : (y :: r).drop 1 = r := rfl
  rw [hd]
  by_cases c0 : y = 0
  · subst c0
    rw [lp0, lp0]
    cases lp r <;> simp
  · rw [decide_eq_false c0, if_neg c0]
    by_cases c1 : y = 1
    · subst c1
      cases lp r <;> simp
    · rw [decide_eq_false c1, if_neg c1]
      by_cases c2 : y = -1
      · subst c2
        simp
      · rw [decide_eq_false c2, if_neg c2]
        simp
theorem drop_get {r : List Rat} {p : Nat} (y : Rat) (h : lp r = some p) : (y :: r)[p + 1]? = some (r.getD p 0) := by
  have hp := lp_lt h
  rw [List.getElem?_cons_succ, List.getElem?_eq_getElem hp]
  simp [hp]
theorem map_get {ys : List Rat} {i : Nat} {z : Rat} (h : ys[i]? = some z) : (ys.map fr)[i]? = some (fr z) := by
  rw [List.getElem?_map, h]
  rfl
theorem strV_some {y : Rat} {r : List Rat} {p : Nat} (h : y = 0 ∨ y = 1) (hp : lp r = some p) : strV (y :: r) = fr (r.getD p 0) := by
  show (if y = 0 ∨ y = 1 then (match lp r with
      | some p => fr (r.getD p 0)
      | none => .non) else .non) = _
  rw [if_pos h, hp]
theorem strV_none {y : Rat} {r : List Rat} (hp : lp r = none) : strV (y :: r) = .non := by
  show (if y = 0 ∨ y = 1 then (match lp r with
      | some p => fr (r.getD p 0)
      | none => .non) else .non) = _
  rw [hp]
  exact ite_self _
theorem strV_else {y : Rat} {r : List Rat} (h : ¬ (y = 0 ∨ y = 1)) : strV (y :: r) = .non := by
  show (if y = 0 ∨ y = 1 then (match lp r with
      | some p => fr (r.getD p 0)
      | none => .non) else .non) = _
  rw [if_neg h]
theorem step_init {d : D} {y : Rat} {r : List Rat} {st : Sto} (q : Sx d ((y :: r).map fr) st) (h2 : 2 ≤ (y :: r).length) (h24 : (y :: r).length ≤ 24) : f_Step___init__ [.ref st.length, d] (st ++ [some (.ins "Step" [])]) = .ok .non (st ++ [some (.ins "Step" (stepF (y :: r)))]) := by
  obtain ⟨bs, i1, i2⟩ := its_fr (y :: r)
  have hl : ((y :: r).map fr).length = (y :: r).length := List.length_map ..
  obtain ⟨n, hn⟩ : ∃ n : Int, n = ((y :: r).length : Nat) := ⟨_, rfl⟩
  have chk : ∀ x, f_check_numbers [d, .int 0] (st ++ x) = .ok .non (st ++ x) := fun x => chk_ok q.sq i1 x (a := 0) (N := n) (by rw [hl]; omega) (by omega) (by omega) i2
  have lst : ∀ x, listD false [d] (st ++ x) = .ok (.lst ((y :: r).map fr)) (st ++ x) := fun x => q.sq.lst x (by rw [hl]; omega)
  have len : ∀ x, lenD [d] (st ++ x) = .ok (.int n) (st ++ x) := fun x => by
    have := q.sq.len x
    rw [hl, ← hn] at this
    exact this
  have ix0 : ∀ x, ixD d (.int 0) (st ++ x) = .ok (fr y) (st ++ x) := fun x => q.ix x 0 0 _ rfl rfl
  have lea := fun s => least (0 :: y :: r) s _ (.inl rfl)
  have bnd := fun s => bend (ys := y :: r) (by omega) s
  rw [lp0] at lea
  have cat : ∀ s, catL false (.lst [fr 0]) (.lst ((y :: r).map fr)) s = .ok (.lst ((0 :: y :: r).map fr)) s := fun s => by
    rw [catE]
    exact mkE (0 :: y :: r) (by simp at h24 ⊢; omega) s
  have z0 : D.tup [.int 0, .int 1] = fr 0 := rfl
  have ek := fun s => kind_ex (y := y) (r := r) (by omega) s
  have ixp : ∀ p, lp r = some p → ∀ x (ii : Int), ii = ((p + 1 : Nat) : Int) → ixD d (.int ii) (st ++ x) = .ok (fr (r.getD p 0)) (st ++ x) := fun p hp x ii hi => q.ix x (p + 1) ii _ (map_get (drop_get y hp)) hi
  have hF : stepF (y :: r) = F7 (.lst ((0 :: y :: r).map fr)) (.int n) (fr y) (oD ((lp (y :: r)).map (· + 1))) (.str (kindS (y :: r))) (oD ((bendV (y :: r)).map (· + 1))) (strV (y :: r)) := by rw [hn]; rfl
  rw [hF]
  obtain ⟨kk, hkk⟩ : ∃ kk, kk = kindS (y :: r) := ⟨_, rfl⟩
  have hk := hkk
  rw [kindS_c] at hk
  have hkok : strOk kk = true := by rw [hkk]; exact kindS_ok _
  rw [← hkk] at ek ⊢
  obtain ⟨hh, hhh⟩ : ∃ hh, hh = oD ((lp (y :: r)).map (· + 1)) := ⟨_, rfl⟩
  rw [← hhh] at lea ⊢
  generalize (y :: r).map fr = u at *
  generalize (0 :: y :: r).map fr = A at *
  have s1 : (sFldM ["Step"] "_numbers" (eBin (catL false) (eLst false (aCons (eC (.tup [.int 0, .int 1])) aNil)) (eCB (listD false) (aCons (eVar 1) aNil))) (eVar 0)) [some (.ref st.length), some d, none] (st ++ [some (.ins "Step" [])]) = .nx [some (.ref st.length), some d, none] (st ++ [some (.ins "Step" [("_numbers", .lst A)])]) := fld rfl (by
    have k1 : ∀ z, mkL false [fr 0] z = .ok (.lst [fr 0]) z := fun z => mkF _ (by simp) z
    generalize fr 0 = f0 at *
    simp [-mkL_val, z0, k1, lst, cat]) (by simp) rfl
  have s2 : (sFldM ["Step"] "order" (eCB lenD (aCons (eVar 1) aNil)) (eVar 0)) [some (.ref st.length), some d, none] (st ++ [some (.ins "Step" [("_numbers", .lst A)])]) = .nx [some (.ref st.length), some d, none] (st ++ [some (.ins "Step" [("_numbers", .lst A), ("order", .int n)])]) := fld rfl (cb1 rfl (len _)) (by simp) rfl
  have s3 : (sFldM ["Step"] "lead" (eBin ixD (eVar 1) (eC (.int 0))) (eVar 0)) [some (.ref st.length), some d, none] (st ++ [some (.ins "Step" [("_numbers", .lst A), ("order", .int n)])]) = .nx [some (.ref st.length), some d, none] (st ++ [some (.ins "Step" [("_numbers", .lst A), ("order", .int n), ("lead", fr y)])]) := fld rfl (ixv rfl rfl (ix0 _)) (by simp) rfl
  have s4 : (sFldM ["Step"] "height" (eCall f_least_place (aCons (eUn (attD "_numbers") (eVar 0)) aNil) []) (eVar 0)) [some (.ref st.length), some d, none] (st ++ [some (.ins "Step" [("_numbers", .lst A), ("order", .int n), ("lead", fr y)])]) = .nx [some (.ref st.length), some d, none] (st ++ [some (.ins "Step" [("_numbers", .lst A), ("order", .int n), ("lead", fr y), ("height", hh)])]) := fld rfl (call1 (at_un rfl rfl) (lea _)) (by simp) rfl
  have s5 : (sFldM ["Step"] "kind" (eCall f__kind_of (aCons (eUn (attD "_numbers") (eVar 0)) aNil) []) (eVar 0)) [some (.ref st.length), some d, none] (st ++ [some (.ins "Step" [("_numbers", .lst A), ("order", .int n), ("lead", fr y), ("height", hh)])]) = .nx [some (.ref st.length), some d, none] (st ++ [some (.ins "Step" [("_numbers", .lst A), ("order", .int n), ("lead", fr y), ("height", hh), ("kind", .str kk)])]) := fld rfl (call1 (at_un rfl rfl) (ek _)) (by simp) rfl
  have s6 : (sFldM ["Step"] "flat" (eC .non) (eVar 0)) [some (.ref st.length), some d, none] (st ++ [some (.ins "Step" [("_numbers", .lst A), ("order", .int n), ("lead", fr y), ("height", hh), ("kind", .str kk)])]) = .nx [some (.ref st.length), some d, none] (st ++ [some (.ins "Step" [("_numbers", .lst A), ("order", .int n), ("lead", fr y), ("height", hh), ("kind", .str kk), ("flat", .non)])]) := fld rfl rfl (by simp) rfl
  have s7 : (sFldM ["Step"] "strength" (eC .non) (eVar 0)) [some (.ref st.length), some d, none] (st ++ [some (.ins "Step" [("_numbers", .lst A), ("order", .int n), ("lead", fr y), ("height", hh), ("kind", .str kk), ("flat", .non)])]) = .nx [some (.ref st.length), some d, none] (st ++ [some (.ins "Step" (F7 (.lst A) (.int n) (fr y) hh (.str kk) .non .non))]) := fld rfl rfl (by simp) rfl
  have pre : ∀ (σ : Sl) (x z : D), sSeq creepB crushB [some (.ref st.length), some d, none] (st ++ [some (.ins "Step" (F7 (.lst A) (.int n) (fr y) hh (.str kk) .non .non))]) = .nx σ (st ++ [some (.ins "Step" (F7 (.lst A) (.int n) (fr y) hh (.str kk) x z))]) → f_Step___init__ [.ref st.length, d] (st ++ [some (.ins "Step" [])]) = .ok .non (st ++ [some (.ins "Step" (F7 (.lst A) (.int n) (fr y) hh (.str kk) x z))]) := fun σ x z h => by
    unfold f_Step___init__
    refine def_nx (σ := σ) rfl ?_ (by simp)
    show m_Step___init__ [some (.ref st.length), some d, none] _ = _
    refine (seq_nx (σ1 := [some (.ref st.length), some d, none]) (st1 := st ++ [some (.ins "Step" [])]) (by simp [chk])).trans ?_
    exact (seq_nx s1).trans ((seq_nx s2).trans ((seq_nx s3).trans ((seq_nx s4).trans ((seq_nx s5).trans ((seq_nx s6).trans ((seq_nx s7).trans h))))))
  have q1 := fun s => eq_word kk "creep" s hkok (by decide +kernel)
  have q2 := fun s => eq_word kk "crush" s hkok (by decide +kernel)
  have plain : ¬ kk = "creep" → ¬ kk = "crush" → sSeq creepB crushB [some (.ref st.length), some d, none] (st ++ [some (.ins "Step" (F7 (.lst A) (.int n) (fr y) hh (.str kk) .non .non))]) = .nx [some (.ref st.length), some d, none] (st ++ [some (.ins "Step" (F7 (.lst A) (.int n) (fr y) hh (.str kk) .non .non))]) := fun w1 w2 => by
    rw [decide_eq_false w1] at q1
    rw [decide_eq_false w2] at q2
    refine (seq_nx ((if_no (un_eq (at_un rfl rfl) (q1 _))).trans rfl)).trans ?_
    exact (if_no (un_eq (at_un rfl rfl) (q2 _))).trans rfl
  have hb : bendV (y :: r) = if y = 1 then lp r else none := rfl
  by_cases c0 : y = 0
  · have n1 : ¬ y = 1 := by rw [c0]; decide
    rw [hb, if_neg n1]
    rw [if_pos c0] at hk
    cases hp : lp r with
    | none =>
      rw [hp] at hk
      rw [strV_none hp]
      exact pre [some (.ref st.length), some d, none] .non .non (plain (by rw [hk]; decide +kernel) (by rw [hk]; decide +kernel))
    | some p =>
      rw [hp] at hk
      have hk : kk = "crush" := hk
      rw [decide_eq_false (by rw [hk]; decide +kernel)] at q1
      rw [decide_eq_true hk] at q2
      obtain ⟨qi, hq⟩ : ∃ qi : Int, qi = ((p + 1 : Nat) : Int) := ⟨_, rfl⟩
      have hh2 : hh = .int (qi + 1) := by
        rw [hhh, c0, lp0, hp, hq]
        rfl
      have sub : ∀ s, (eUn (attD "height") (eVar 0)) [some (.ref st.length), some d, none] s = .ok (.int (qi + 1)) s → (eBin subI (eUn (attD "height") (eVar 0)) (eC (.int 1))) [some (.ref st.length), some d, none] s = .ok (.int qi) s := fun s e => by
        generalize eUn (attD "height") (eVar 0) = me at *
        simp [e]
      rw [strV_some (.inl c0) hp]
      refine pre [some (.ref st.length), some d, none] _ _ ?_
      refine (seq_nx ((if_no (un_eq (at_un rfl rfl) (q1 _))).trans rfl)).trans ?_
      refine (if_yes (un_eq (at_un rfl rfl) (q2 _))).trans ?_
      rw [hh2]
      exact fld rfl (ixv rfl (sub _ (at_un rfl rfl)) (ixp p hp _ qi hq)) (by simp) rfl
  · by_cases c1 : y = 1
    · rw [hb, if_pos c1]
      rw [if_neg c0, if_pos c1] at hk
      cases hp : lp r with
      | none =>
        rw [hp] at hk
        rw [strV_none hp]
        exact pre [some (.ref st.length), some d, none] .non .non (plain (by rw [hk]; decide +kernel) (by rw [hk]; decide +kernel))
      | some p =>
        rw [hp] at hk
        have hk : kk = "creep" := hk
        rw [decide_eq_true hk] at q1
        rw [decide_eq_false (by rw [hk]; decide +kernel)] at q2
        obtain ⟨qi, hq⟩ : ∃ qi : Int, qi = ((p + 1 : Nat) : Int) := ⟨_, rfl⟩
        have bn : ∀ s, f__bend_of [.lst A] s = .ok (.int (qi + 1)) s := fun s => by
          have := bnd s
          have hd : (y :: r).drop 1 = r := rfl
          rw [hd, hp] at this
          rw [this, hq]
          rfl
        have hf : oD ((some p).map (· + 1)) = .int qi := by rw [hq]; rfl
        have sub : ∀ s, (eBin subI (eVar 2) (eC (.int 1))) [some (.ref st.length), some d, some (.int (qi + 1))] s = .ok (.int qi) s := fun s => by simp
        rw [hf, strV_some (.inr c1) hp]
        refine pre [some (.ref st.length), some d, some (.int (qi + 1))] _ _ ?_
        refine (seq_nx (σ1 := [some (.ref st.length), some d, some (.int (qi + 1))]) (st1 := st ++ [some (.ins "Step" (F7 (.lst A) (.int n) (fr y) hh (.str kk) (.int qi) (fr (r.getD p 0))))]) ((if_yes (un_eq (at_un rfl rfl) (q1 _))).trans ?_)).trans ?_
        · refine (seq_nx (set_of (call1 (at_un rfl rfl) (bn _)) rfl)).trans ?_
          refine (seq_nx (fld (gs := F7 (.lst A) (.int n) (fr y) hh (.str kk) (.int qi) .non) rfl (sub _) (by simp) rfl)).trans ?_
          exact fld rfl (ixv rfl (sub _) (ixp p hp _ qi hq)) (by simp) rfl
        · exact (if_no (un_eq (at_un rfl rfl) (q2 _))).trans rfl
    · have n01 : ¬ (y = 0 ∨ y = 1) := fun z => z.elim c0 c1
      rw [hb, if_neg c1, strV_else n01]
      rw [if_neg c0, if_neg c1] at hk
      have w : ¬ kk = "creep" ∧ ¬ kk = "crush" := by
        by_cases c2 : y = -1
        · rw [if_pos c2] at hk
          rw [hk]
          exact ⟨by decide +kernel, by decide +kernel⟩
        · rw [if_neg c2] at hk
          rw [hk]
          exact ⟨by decide +kernel, by decide +kernel⟩
      exact pre [some (.ref st.length), some d, none] .non .non (plain w.1 w.2)
theorem step_init_exc {d : D} {st : Sto} {x : Exn} (h : ∀ y, f_check_numbers [d, .int 0] (st ++ y) = .exc x (st ++ y)) : f_Step___init__ [.ref st.length, d] (st ++ [some (.ins "Step" [])]) = .exc x (st ++ [some (.ins "Step" [])]) := by
  unfold f_Step___init__
  refine def_exc (σ := [some (.ref st.length), some d, none]) rfl ?_ (by simp)
  show m_Step___init__ [some (.ref st.length), some d, none] _ = _
  unfold m_Step___init__
  simp [h]
abbrev mkSK (ma : Am) : Em := eFrz (eMkP "Step" f_Step___init__ 0 1 false aNil ma)
section
variable {d : D} {ys : List Rat} {st : Sto} {ma : Am} {σ : Sl} (e : ma σ st = .ok [d] st)
include e
theorem mk_st (q : Sx d (ys.map fr) st) (h2 : 2 ≤ ys.length) (h24 : ys.length ≤ 24) (hs : NoR st) : mkSt ma σ st = .ok (stepV ys) st := by
  cases ys with
  | nil => simp at h2
  | cons y r =>
    refine frz_last (st := st) ?_ (nr_stepV (y :: r)) hs
    rw [emk1 e, step_init q h2 h24]
    rfl
theorem mk_stK (q : Sx d (ys.map fr) st) (h2 : 2 ≤ ys.length) (h24 : ys.length ≤ 24) (hs : NoR st) : mkSK ma σ st = .ok (stepV ys) st := by
  cases ys with
  | nil => simp at h2
  | cons y r =>
    refine frz_last (st := st) ?_ (nr_stepV (y :: r)) hs
    rw [emk2 e, step_init q h2 h24]
    rfl
theorem mk_sx {x : Exn} (h : ∀ y, f_check_numbers [d, .int 0] (st ++ y) = .exc x (st ++ y)) : mkSt ma σ st = .exc x (st ++ [some (.ins "Step" [])]) := by
  unfold mkSt eFrz
  rw [emk1 e, step_init_exc h]
  rfl
theorem mk_sxK {x : Exn} (h : ∀ y, f_check_numbers [d, .int 0] (st ++ y) = .exc x (st ++ y)) : mkSK ma σ st = .exc x (st ++ [some (.ins "Step" [])]) := by
  unfold mkSK eFrz
  rw [emk2 e, step_init_exc h]
  rfl
end
end K10

set_option exponentiation.threshold 20000
set_option linter.all false
set_option maxRecDepth 100000
set_option maxHeartbeats 4000000
namespace K10
open PySem PySem.Spec PyProof.Rows L2 Sim
open PySem.PyData (strOk)
/-! ### the methods of steps -/
section
variable (ys : List Rat) (st : Sto)
theorem a_num : attD "_numbers" (stepV ys) st = .ok (.lst ((0 :: ys).map fr)) st := rfl
theorem a_ord {n : Int} (h : n = (ys.length : Nat)) : attD "order" (stepV ys) st = .ok (.int n) st := by subst h; rfl
theorem a_lead : attD "lead" (stepV ys) st = .ok (fr (ys.headD 0)) st := rfl
theorem a_hei : attD "height" (stepV ys) st = .ok (oD ((lp ys).map (· + 1))) st := rfl
theorem a_kind : attD "kind" (stepV ys) st = .ok (.str (kindS ys)) st := rfl
theorem a_flat : attD "flat" (stepV ys) st = .ok (oD ((bendV ys).map (· + 1))) st := rfl
theorem a_str : attD "strength" (stepV ys) st = .ok (strV ys) st := rfl
theorem isc_st : isC "Step" (stepV ys) st = true := by
  show decide (("Step" : Str) = "Step") = true
  decide +kernel
theorem io_st (m : Str) (h : m = "numbers" ∨ m = "number" ∨ m = "gone_on" ∨ m = "cut" ∨ m = "as_row") : insOf "Step" m (stepV ys) st = true := by
  rcases h with rfl | rfl | rfl | rfl | rfl <;> rfl
theorem okT_st : okT clsL (stepV ys) st = true := okT_ins (by decide +kernel) st
theorem isP_st : isiD (isP clsL "Step") (stepV ys) st = .ok (.bl true) st := by
  show (match isP clsL "Step" (.c "Step") with | some b => Res.ok (D.bl b) st | none => .bad) = _
  have : isP clsL "Step" (.c "Step") = some true := by
    show (if ("Step" : Str) ∈ clsL then some (decide (("Step" : Str) = "Step")) else none) = some true
    rw [if_pos (by decide +kernel), decide_eq_true rfl]
  rw [this]
end
theorem nums_sl {k : Bool} {a r : D} {st s1 : Sto} {x : D} (h : attD "_numbers" r st = .ok a st) (s : slD k a (some 1) none st = .ok x s1) : (eSl k (eUn (attD "_numbers") (eVar 0)) (pSome (eC (.int 1))) pNone) [some r] st = .ok x s1 := by
  simp [eSl, h, s]
theorem s_numbers (ys : List Rat) (st : Sto) (hl : ys.length ≤ 900) : f_Step_numbers [stepV ys] st = .ok (.lst (ys.map fr)) st := by
  have s := sl_from (ds := (0 :: ys).map fr) (k := 1) (ki := 1) rfl (by simp; omega) st
  unfold f_Step_numbers
  refine def_rt rfl ?_ (Nat.le_refl _)
  exact ret_of (nums_sl (a_num ys st) s)
theorem cb_me {f : List D → Sto → Res D} {me : Em} {σ : Sl} {d r : D} {st : Sto} (e : me σ st = .ok d st) (h : f [d] st = .ok r st) : (eCB f (aCons me aNil)) σ st = .ok r st := by
  simp [e, h]
theorem eq_m {r s a b : D} {c : Bool} {st : Sto} (i : isiD (isP clsL "Step") s st = .ok (.bl true) st) (ha : attD "_numbers" r st = .ok a st) (hb : attD "_numbers" s st = .ok b st) (e : eqD a b st = .ok (.bl c) st) : m_Step___eq__ [some r, some s] st = .rt (.bl c) st := by
  unfold m_Step___eq__
  simp [i, ha, hb, e]
theorem f_s_eq (xs ys : List Rat) (st : Sto) : f_Step___eq__ [stepV xs, stepV ys] st = .ok (.bl (decide (xs = ys))) st := by
  have e := eqD_fr (0 :: xs) (0 :: ys) st
  have h : decide (0 :: xs = 0 :: ys) = decide (xs = ys) := by
    by_cases c : xs = ys
    · rw [decide_eq_true c, decide_eq_true (by rw [c])]
    · rw [decide_eq_false c, decide_eq_false (by simpa using c)]
  rw [h] at e
  unfold f_Step___eq__
  exact def_rt rfl (eq_m (isP_st ys st) (a_num xs st) (a_num ys st) e) (Nat.le_refl _)
theorem s_eq (xs ys : List Rat) (st : Sto) : eqO "Step" clsL f_Step___eq__ (stepV xs) (stepV ys) st = .ok (.bl (decide (xs = ys))) st := by
  unfold eqO
  rw [if_pos ⟨isc_st xs st, okT_st ys st⟩]
  exact f_s_eq xs ys st
theorem s_eq_self (xs : List Rat) (st : Sto) : eqO "Step" clsL f_Step___eq__ (stepV xs) (stepV xs) st = .ok (.bl true) st := by
  have := s_eq xs xs st
  rw [decide_eq_true rfl] at this
  exact this
theorem att_arg {r a : D} {f : Str} {st : Sto} {σ : Sl} (h0 : σ[0]? = some (some r)) (h : attD f r st = .ok a st) : (aCons (eUn (attD f) (eVar 0)) aNil) σ st = .ok [a] st := by
  simp [h0, h]
/-! cuts -/
theorem cut_both (ds : List D) (k : Nat) (h : k + 1 ≤ ds.length) : Sim.cutD ds (some ((1 : Nat) : Int)) (some ((k + 1 : Nat) : Int)) = (ds.drop 1).take k := by
  unfold Sim.cutD
  have e1 : HT.sIx ds.length 0 (some ((1 : Nat) : Int)) = min 1 ds.length := HT.sIx_nat ds.length 0 1
  have e2 : HT.sIx ds.length ds.length (some ((k + 1 : Nat) : Int)) = min (k + 1) ds.length := HT.sIx_nat ds.length ds.length (k + 1)
  rw [e1, e2, Nat.min_eq_left h, Nat.min_eq_left (by omega)]
  rfl
theorem sl_both (ys : List Rat) {k : Nat} {ki : Int} (hk : ki = ((k + 1 : Nat) : Int)) (h : k ≤ ys.length) (hl : ys.length ≤ 900) (st : Sto) : slD false (.lst ((0 :: ys).map fr)) (some 1) (some ki) st = .ok (.lst ((ys.take k).map fr)) st := by
  subst hk
  show mkL false (Sim.cutD ((0 :: ys).map fr) (some ((1 : Nat) : Int)) (some ((k + 1 : Nat) : Int))) st = _
  rw [cut_both _ _ (by simp; omega)]
  have e : (((0 :: ys).map fr).drop 1).take k = (ys.take k).map fr := by
    show (ys.map fr).take k = _
    rw [List.map_take]
  rw [e]
  exact mkE _ (by rw [List.length_take]; omega) st
theorem cut_ma {r A x : D} {k : Int} {st : Sto} (ha : attD "_numbers" r st = .ok A st) (s : slD false A (some 1) (some (k + 1)) st = .ok x st) : (aCons (eSl false (eUn (attD "_numbers") (eVar 0)) (pSome (eC (.int 1))) (pSome (eBin addD (eVar 1) (eC (.int 1))))) aNil) [some r, some (.int k)] st = .ok [x] st := by
  simp [eSl, ha, s]
/-! goings-on -/
theorem gone_s {r d o : D} {st : Sto} (ho : attD "order" r st = .ok o st) (h : f_check_numbers [d, o] st = .ok .non st) : (sExpr (eCall f_check_numbers (aCons (eVar 1) (aCons (eUn (attD "order") (eVar 0)) aNil)) [])) [some r, some d] st = .nx [some r, some d] st := by
  simp [ho, h]
theorem gone_sx {r d o : D} {x : Exn} {st : Sto} (ho : attD "order" r st = .ok o st) (h : f_check_numbers [d, o] st = .exc x st) {b : Sm} : sSeq (sExpr (eCall f_check_numbers (aCons (eVar 1) (aCons (eUn (attD "order") (eVar 0)) aNil)) [])) b [some r, some d] st = .exc x [some r, some d] st := by
  simp [ho, h]
theorem gone_ma {r A x y z d : D} {st : Sto} (ha : attD "_numbers" r st = .ok A st) (s : slD false A (some 1) none st = .ok x st) (l : listD false [d] st = .ok y st) (c : catL false x y st = .ok z st) : (aCons (eBin (catL false) (eSl false (eUn (attD "_numbers") (eVar 0)) (pSome (eC (.int 1))) pNone) (eCB (listD false) (aCons (eVar 1) aNil))) aNil) [some r, some d] st = .ok [z] st := by
  simp [eSl, ha, s, l, c]
/-! still steps, scalings -/
theorem scl_ma {f zz dd : D} {k : Int} {n : Nat} {zs : List D} {st : Sto} (b : big (k - 1) = true) (t : (k - 1).toNat = n) (cc : compM (compF [2] (gN 2) tTrue (eC (.tup [.int 0, .int 1])) [some f, some (.int k), none]) (intsL 0 n) st = .ok zs st) (m : mkL false zs st = .ok zz st) (c : catL false (.lst [f]) zz st = .ok dd st) :
    (aCons (eBin (catL false) (eLst false (aCons (eVar 0) aNil)) (eComp false [2] (iRange1 (aCons (eBin subI (eVar 1) (eC (.int 1))) aNil)) (gN 2) tTrue (eC (.tup [.int 0, .int 1])))) aNil) [some f, some (.int k), none] st = .ok [dd] st := by
  have k1 : ∀ s, mkL false [f] s = .ok (.lst [f]) s := fun s => mkF _ (by simp) s
  simp [-mkL_val, k1, eComp, b, t, cc, m, c]
theorem unit_tail {k : Int} {st : Sto} : ∀ (m j : Nat) (lo : Int), lo = (j : Nat) → 1 ≤ j → compM (compF [2] (gN 2) tTrue (eIf (tOf (eBin eqD (eVar 2) (eVar 0))) (eC (.tup [.int 1, .int 1])) (eC (.tup [.int 0, .int 1]))) [some (.int 0), some (.int k), none]) (intsL lo m) st = .ok ((tab j m (fun _ => 0)).map fr) st
  | 0, j, lo, _, _ => rfl
  | m + 1, j, lo, hlo, hj => by
    rw [intsL_cons]
    unfold compM
    have c : ¬ lo = 0 := by omega
    have e : compF [2] (gN 2) tTrue (eIf (tOf (eBin eqD (eVar 2) (eVar 0))) (eC (.tup [.int 1, .int 1])) (eC (.tup [.int 0, .int 1]))) [some (.int 0), some (.int k), none] (.int lo) st = .ok (some (.tup [.int 0, .int 1])) st := by
      rw [compF_1]
      simp [wipeD, eqD_int, decide_eq_false c]
    rw [e]
    simp only [unit_tail m (j + 1) (lo + 1) (by omega) (by omega)]
    rfl
theorem call2 {f : List D → Sto → Res D} {i j : Nat} {me : Em} {σ : Sl} {d e r : D} {st : Sto} (h1 : me σ st = .ok d st) (h2 : σ[j]? = some (some e)) (h : f [d, e] st = .ok r st) : (aCons (eCall f (aCons me (aCons (eVar j) aNil)) []) aNil) σ st = .ok [r] st := by
  simp [h1, h2, h]
end K10

set_option exponentiation.threshold 20000
set_option linter.all false
set_option maxRecDepth 100000
set_option maxHeartbeats 4000000
namespace K10
open PySem PySem.Spec PyProof.Rows L2 Sim
open PySem.PyData (strOk)
/-! ### `_law_kind` -/
theorem sp_c (x : Rat) (r : List Rat) (k : Nat) : sp k (x :: r) = if x = 0 then sp (k + 1) r else ((k : Nat) : Int) :: sp (k + 1) r := rfl
theorem sp_ge : ∀ (xs : List Rat) (k : Nat) (z : Int), z ∈ sp k xs → (k : Int) ≤ z
  | [], k, z, h => by cases h
  | x :: xs, k, z, h => by
    rw [sp_c] at h
    split at h
    · have := sp_ge xs (k + 1) z h
      omega
    · rcases List.mem_cons.mp h with h | h
      · omega
      · have := sp_ge xs (k + 1) z h
        omega
theorem sp_emp (r : List Rat) (k : Nat) : (sp k r).isEmpty = !(lp r).isSome := by
  have h := sp_head r k
  cases e : sp k r with
  | nil =>
    rw [e] at h
    cases q : lp r with
    | none => rfl
    | some i => rw [q] at h; cases h
  | cons a l =>
    rw [e] at h
    cases q : lp r with
    | none => rw [q] at h; cases h
    | some i => rfl
theorem sp_fil (y : Rat) (r : List Rat) : (sp 0 (y :: r)).filter (fun z => decide (0 < z)) = sp 1 r := by
  have h : (sp 1 r).filter (fun z => decide (0 < z)) = sp 1 r := List.filter_eq_self.mpr fun z hz => by
    have := sp_ge r 1 z hz
    simp
    omega
  rw [sp_c]
  split
  · exact h
  · rw [List.filter_cons, if_neg (by simp)]
    exact h
theorem compFil {f : D → Sto → Res (Option D)} {st : Sto} : ∀ (zs : List Int), (∀ z ∈ zs, f (.int z) st = .ok (if 0 < z then some (.int z) else none) st) → compM f (zs.map .int) st = .ok ((zs.filter (fun z => decide (0 < z))).map .int) st
  | [], _ => rfl
  | z :: zs, h => by
    rw [List.map_cons]
    unfold compM
    rw [h z (List.mem_cons_self ..)]
    have ih := compFil zs fun w hw => h w (List.mem_cons_of_mem _ hw)
    by_cases c : 0 < z
    · rw [if_pos c, List.filter_cons, if_pos (by simpa using c)]
      simp only [ih]
      rfl
    · rw [if_neg c, List.filter_cons, if_neg (by simpa using c)]
      simp only [ih]
/-- a place's number is not 0 -/
theorem spot_f {i j : Nat} {own : List Nat} {σ : Sl} {xs : List Rat} {m : Nat} {ii : Int} {x : Rat} (hg : (wipeD σ own).length > j) (h1 : ((wipeD σ own).set j (some (.int ii)))[i]? = some (some (.lst (xs.map fr)))) (hx : xs[m]? = some x) (hi : ii = (m : Nat)) (st : Sto) :
    compF own (gN j) (tOf (eBin neD (eBin ixD (eBin ixD (eVar i) (eVar j)) (eC (.int 0))) (eC (.int 0)))) (eVar j) σ (.int ii) st = .ok (if x = 0 then none else some (.int ii)) st := by
  have e := ix_fr xs hi hx st _ (.inl rfl)
  have i0 := fr0 x st
  have z : x.num = 0 ↔ x = 0 := num0
  have hj : ((wipeD σ own).set j (some (.int ii)))[j]? = some (some (.int ii)) := List.getElem?_set_self hg
  generalize xs.map fr = aa at *
  generalize fr x = fx at *
  by_cases c : x = 0
  · have c' := z.mpr c
    rw [if_pos c]
    generalize x.num = xn at *
    simp [compF, h1, hj, e, i0, neD_int, decide_eq_true c']
  · have c' : ¬ x.num = 0 := fun w => c (z.mp w)
    rw [if_neg c]
    generalize x.num = xn at *
    simp [compF, h1, hj, e, i0, neD_int, decide_eq_false c']
theorem comp_of {own : List Nat} {im : Im} {g : Gm} {t : Sim.Tm} {e : Em} {σ : Sl} {st s1 s2 s3 : Sto} {items ys : List D} {d : D} {k : Bool} (h : im σ st = .ok items s1) (c : compM (compF own g t e σ) items s1 = .ok ys s2) (m : mkL k ys s2 = .ok d s3) : eComp k own im g t e σ st = .ok d s3 := by
  unfold eComp
  rw [h]
  show ((compM _ items s1).bind _) = _
  rw [c]
  exact m
theorem range_12 {σ : Sl} {i : Nat} {st : Sto} {u : D} {n : Int} {m : Nat} (h : σ[i]? = some (some u)) (l : lenD [u] st = .ok (.int n) st) (b : big n = true) (t : (n - 1).toNat = m) : iRange2 (aCons (eC (.int 1)) (aCons (eCB lenD (aCons (eVar i) aNil)) aNil)) σ st = .ok (intsL 1 m) st := by
  have b1 : big 1 = true := by decide
  simp [h, l, b, b1, t]
theorem range_li {σ : Sl} {i : Nat} {st : Sto} {u : D} {n : Int} {m : Nat} (h : σ[i]? = some (some u)) (l : lenD [u] st = .ok (.int n) st) (b : big n = true) (t : n.toNat = m) : iRange1 (aCons (eCB lenD (aCons (eVar i) aNil)) aNil) σ st = .ok (intsL 0 m) st := by
  simp [h, l, b, t]
theorem mkI (zs : List Int) (h : zs.length ≤ 1000) (st : Sto) : mkL false (zs.map .int) st = .ok (.lst (zs.map .int)) st := mkF _ (by rw [List.length_map]; omega) st
abbrev kndB : Sm := (sSeq (sIf (tOf (eBin eqD (eBin ixD (eVar 0) (eC (.int 0))) (eTup (aCons (eC (.int 0)) (aCons (eC (.int 1)) aNil))))) (sRet (eIf (tOf (eBin neD (eVar 1) (eLst false aNil))) (eC (.str "crush")) (eC (.str "nothing")))) sNil) (sSeq (sIf (tOf (eBin eqD (eBin ixD (eVar 0) (eC (.int 0))) (eTup (aCons (eC (.int 1)) (aCons (eC (.int 1)) aNil))))) (sRet (eIf (tOf (eBin neD (eVar 1) (eLst false aNil))) (eC (.str "creep")) (eC (.str "still")))) sNil) (sRet (eIf (tOf (eBin eqD (eBin ixD (eVar 0) (eC (.int 0))) (eTup (aCons (eUn negI (eC (.int 1))) (aCons (eC (.int 1)) aNil))))) (eC (.str "flip")) (eC (.str "stretch"))))))
theorem knd_m {a r l : D} {st : Sto} {b b0 b1 b2 : Bool} {x2 : Option D} (i : ixD a (.int 0) st = .ok l st) (q0 : eqD l (.tup [.int 0, .int 1]) st = .ok (.bl b0) st) (q1 : eqD l (.tup [.int 1, .int 1]) st = .ok (.bl b1) st) (q2 : eqD l (.tup [.int (-1), .int 1]) st = .ok (.bl b2) st) (ne : neD r (.lst []) st = .ok (.bl b) st) :
    kndB [some a, some r, x2] st = .rt (.str (if b0 = true then (if b = true then "crush" else "nothing") else if b1 = true then (if b = true then "creep" else "still") else if b2 = true then "flip" else "stretch")) st := by
  have k0 : ∀ z, mkL false [] z = .ok (.lst []) z := fun z => mkF _ (by simp) z
  cases b0 with
  | true => cases b <;> simp [-mkL_val, i, two_le_line, q0, k0, ne]
  | false =>
    cases b1 with
    | true => cases b <;> simp [-mkL_val, i, two_le_line, q0, q1, k0, ne]
    | false => cases b2 <;> simp [-mkL_val, i, two_le_line, q0, q1, q2]
/-! ### `_law_told_so` -/
theorem in_two (s a b : Str) (st : Sto) : inSD false (.str s) (.tup [.str a, .str b]) st = .ok (.bl (decide (s = a) || decide (s = b))) st := by
  have e : inSD false (.str s) (.tup [.str a, .str b]) st = .ok (.bl (xor false (decide (s ∈ [a, b])))) st := rfl
  rw [e]
  have : decide (s ∈ [a, b]) = (decide (s = a) || decide (s = b)) := by
    by_cases h1 : s = a <;> by_cases h2 : s = b <;> simp [h1, h2]
  rw [this, Bool.false_xor]
section
variable {f a so re ki du to k0 : D} {st s1 : Sto} {x2 x3 x4 x5 x6 x7 : Option D}
theorem ts1 (i : isiD (isP clsL "Step") f st = .ok (.bl true) st) : (sIf (Sim.tNot (tOf (eUn (isiD (isP clsL "Step")) (eVar 0)))) (sRet (eC (.bl false))) sNil) [some f, some a, x2, x3, x4, x5, x6, x7] st = .nx [some f, some a, x2, x3, x4, x5, x6, x7] st := by
  simp [i]
theorem ts5 {n l h p : D} {m1 m2 : Em} (e1 : lenD [a] st = .ok n st) (e2 : ixD a (.int 0) st = .ok l st) (e3 : m1 [some f, some a, some so, some re, some ki, none, none, x7] st = .ok h st) (e4 : m2 [some f, some a, some so, some re, some ki, none, none, x7] st = .ok p st) :
    (sSet 5 (eLst true (aCons (eCB lenD (aCons (eVar 1) aNil)) (aCons (eBin ixD (eVar 1) (eC (.int 0))) (aCons (eVar 4) (aCons m1 (aCons m2 aNil))))))) [some f, some a, some so, some re, some ki, none, none, x7] st = .nx [some f, some a, some so, some re, some ki, some (.ref st.length), none, x7] (st ++ [some (.lst [n, l, ki, h, p])]) := by
  have k : mkL true [n, l, ki, h, p] st = .ok (.ref st.length) (st ++ [some (.lst [n, l, ki, h, p])]) := (mkL_ref _ _).trans (if_pos (by show 5 ≤ line; decide))
  simp [-mkL_ref, e1, e2, e3, e4, k]
theorem ts5a {s : Sto} {d v : D} {m1 : Em} (e3 : m1 [some f, some a, some so, some re, some ki, some d, none, x7] st = .ok v st) (i : Sim.isT "list" d st = true) (m : mutD fAppend d [v] st = .ok .non s1) :
    (sExpr (eBM "list" (mutD fAppend) (eVar 5) (aCons m1 aNil))) [some f, some a, some so, some re, some ki, some d, none, x7] st = .nx [some f, some a, some so, some re, some ki, some d, none, x7] s1 := by
  simp [e3, i, m]
theorem ts8 {d : D} (e : Sim.brw (f__law_like 6) [to, a] st = .ok (.bl true) st) : (sIf (Sim.tNot (tOf (eCall (Sim.brw (f__law_like 6)) (aCons (eVar 6) (aCons (eVar 1) aNil)) []))) (sRet (eC (.bl false))) sNil) [some f, some a, some so, some re, some ki, some d, some to, x7] st = .nx [some f, some a, some so, some re, some ki, some d, some to, x7] st := by
  simp [e]
theorem ts9 {d : D} {n : Int} (l : lenD [a] st = .ok (.int n) st) (e : setD to (.int (n - 1)) (.tup [.int 7, .int 5]) st = some s1) : (sSetIx (eTup (aCons (eC (.int 7)) (aCons (eC (.int 5)) aNil))) (eVar 6) (eBin subI (eCB lenD (aCons (eVar 1) aNil)) (eC (.int 1)))) [some f, some a, some so, some re, some ki, some d, some to, x7] st = .nx [some f, some a, some so, some re, some ki, some d, some to, x7] s1 := by
  simp [two_le_line, l, e]
theorem ts10 {d : D} (i : Sim.isT "list" to st = true) (e : mutD fReverse to [] st = .ok .non s1) : (sExpr (eBM "list" (mutD fReverse) (eVar 6) aNil)) [some f, some a, some so, some re, some ki, some d, some to, x7] st = .nx [some f, some a, some so, some re, some ki, some d, some to, x7] s1 := by
  simp [i, e]
theorem ts11 {d : D} {me : Em} (io : insOf "Step" "numbers" f st = true) (e : f_Step_numbers [f] st = .ok a st) (e2 : me [some f, some a, some so, some re, some ki, some d, some to, x7] st = .ok a st) (hl : f__law_like 6 [.lst [a, a], .lst [a, a]] st = .ok (.bl true) st) :
    (sIf (Sim.tNot (tOf (eCall (f__law_like 6) (aCons (eLst false (aCons (eMeth "Step" "numbers" f_Step_numbers (eVar 0) aNil) (aCons me aNil))) (aCons (eLst false (aCons (eVar 1) (aCons (eVar 1) aNil))) aNil)) []))) (sRet (eC (.bl false))) sNil) [some f, some a, some so, some re, some ki, some d, some to, x7] st = .nx [some f, some a, some so, some re, some ki, some d, some to, x7] st := by
  have k1 : ∀ z, mkL false [a, a] z = .ok (.lst [a, a]) z := fun z => mkF _ (by simp) z
  simp [-mkL_val, eMeth, io, e, e2, k1, hl]
end
theorem rev_at {st : Sto} {L : List D} : mutD fReverse (.ref st.length) [] (st ++ [some (.lst L)]) = .ok .non (st ++ [some (.lst L.reverse)]) := rev_last
/-- some[0] + 1 if some != [] else None -/
theorem hgt {zs : List Int} {o : Option Nat} {σ : Sl} {i : Nat} (hh : zs.head? = o.map fun i => ((i : Nat) : Int)) (h : σ[i]? = some (some (.lst (zs.map .int)))) (st : Sto) : (eIf (tOf (eBin neD (eVar i) (eLst false aNil))) (eBin addD (eBin ixD (eVar i) (eC (.int 0))) (eC (.int 1))) (eC .non)) σ st = .ok (oD (o.map (· + 1))) st := by
  have ne := neD_emp zs st
  have k0 : ∀ z, mkL false [] z = .ok (.lst []) z := fun z => mkF _ (by simp) z
  cases zs with
  | nil =>
    cases o with
    | none =>
      simp only [List.map_nil, List.isEmpty_nil, Bool.not_true] at h ne
      simp [-mkL_val, h, k0, ne, oD]
    | some i => cases hh
  | cons z zs =>
    cases o with
    | none => cases hh
    | some j =>
      have hz : z = (j : Nat) := by simpa using hh
      have ix := ix_first (.int z) (zs.map .int) st
      have r : oD ((some j).map (· + 1)) = .int (z + 1) := by rw [hz]; rfl
      rw [r]
      simp only [List.map_cons, List.isEmpty_cons, Bool.not_false] at h ne
      simp [-mkL_val, h, k0, ne, ix]
theorem flt {zs : List Int} {p : Option Nat} {kk : Str} {σ : Sl} {c : Bool} (h3 : σ[3]? = some (some (.lst (zs.map .int)))) (h4 : σ[4]? = some (some (.str kk))) {st : Sto} (q : eqD (.str kk) (.str "creep") st = .ok (.bl c) st) (hc : (c = true ∧ ∃ j r, zs = ((j + 1 : Nat) : Int) :: r ∧ p = some j) ∨ (c = false ∧ p = none)) :
    (eIf (tOf (eBin eqD (eVar 4) (eC (.str "creep")))) (eBin ixD (eVar 3) (eC (.int 0))) (eC .non)) σ st = .ok (oD (p.map (· + 1))) st := by
  rcases hc with ⟨rfl, j, r, rfl, rfl⟩ | ⟨rfl, rfl⟩
  · have ix := ix_first (.int ((j + 1 : Nat) : Int)) (r.map .int) st
    have rr : oD ((some j).map (· + 1)) = .int ((j + 1 : Nat) : Int) := rfl
    rw [rr]
    rw [List.map_cons] at h3
    generalize ((j + 1 : Nat) : Int) = z at *
    simp [h3, h4, q, ix]
  · simp [h4, q, oD]
theorem stg {zs : List Int} {a v : D} {kk : Str} {σ : Sl} {c : Bool} (h1 : σ[1]? = some (some a)) (h3 : σ[3]? = some (some (.lst (zs.map .int)))) (h4 : σ[4]? = some (some (.str kk))) {st : Sto} (q : inSD false (.str kk) (.tup [.str "creep", .str "crush"]) st = .ok (.bl c) st) (hc : (c = true ∧ ∃ z r, zs = z :: r ∧ ixD a (.int z) st = .ok v st) ∨ (c = false ∧ v = .non)) :
    (eIf (tOf (eBin (inSD false) (eVar 4) (eTup (aCons (eC (.str "creep")) (aCons (eC (.str "crush")) aNil))))) (eBin ixD (eVar 1) (eBin ixD (eVar 3) (eC (.int 0)))) (eC .non)) σ st = .ok v st := by
  rcases hc with ⟨rfl, z, r, rfl, i⟩ | ⟨rfl, rfl⟩
  · have ix := ix_first (.int z) (r.map .int) st
    rw [List.map_cons] at h3
    simp [h1, h3, h4, two_le_line, q, ix, i]
  · simp [h4, two_le_line, q]
end K10

set_option exponentiation.threshold 20000
set_option linter.all false
set_option maxRecDepth 100000
set_option maxHeartbeats 4000000
namespace K10
open PySem PySem.Spec PyProof.Rows L2 Sim
open PySem.PyData (strOk)
theorem kind_cases (y : Rat) (r : List Rat) :
    (y = 1 ∧ ∃ p, lp r = some p ∧ kindS (y :: r) = "creep") ∨ (y = 0 ∧ ∃ p, lp r = some p ∧ kindS (y :: r) = "crush") ∨ (bendV (y :: r) = none ∧ strV (y :: r) = .non ∧ ¬ kindS (y :: r) = "creep" ∧ ¬ kindS (y :: r) = "crush") := by
  have hb : bendV (y :: r) = if y = 1 then lp r else none := rfl
  rw [kindS_c, hb]
  by_cases c0 : y = 0
  · have n1 : ¬ y = 1 := by rw [c0]; decide
    rw [if_pos c0, if_neg n1]
    cases h : lp r with
    | none => exact .inr (.inr ⟨rfl, strV_none h, by show ¬ ("nothing" : Str) = "creep"; decide +kernel, by show ¬ ("nothing" : Str) = "crush"; decide +kernel⟩)
    | some p => exact .inr (.inl ⟨c0, p, rfl, rfl⟩)
  · rw [if_neg c0]
    by_cases c1 : y = 1
    · rw [if_pos c1, if_pos c1]
      cases h : lp r with
      | none => exact .inr (.inr ⟨rfl, strV_none h, by show ¬ ("still" : Str) = "creep"; decide +kernel, by show ¬ ("still" : Str) = "crush"; decide +kernel⟩)
      | some p => exact .inl ⟨c1, p, rfl, rfl⟩
    · rw [if_neg c1, if_neg c1]
      refine .inr (.inr ⟨rfl, strV_else fun z => z.elim c0 c1, ?_⟩)
      split
      · exact ⟨by decide +kernel, by decide +kernel⟩
      · exact ⟨by decide +kernel, by decide +kernel⟩
theorem brw_like2 {n : Nat} {a : List D} (hn : NRs a) (hp : Pl n (.lst a)) (h6 : n < 6) {st : Sto} : Sim.brw (f__law_like 6) [.lst a, .ref st.length] (st ++ [some (.lst a)]) = .ok (.bl true) (st ++ [some (.lst a)]) := by
  have hl := like hp 6 [] h6
  unfold Sim.brw
  have hpp : [D.lst a, D.ref st.length].map (peek (st ++ [some (.lst a)])) = [.lst a, .lst a] := by
    unfold peek
    simp only [List.map_cons, List.map_nil, last_get]
  have hu : D.unds 0 [.lst a, .lst a] = true := NRs.cons (nr_lst' hn) (.cons (nr_lst' hn) .nil) 0
  rw [if_pos (by simp [isRef]), hpp, if_pos hu, hl]
  rfl
theorem fil_f {σ : Sl} {z : Int} (h : (wipeD σ [7]).length > 7) (st : Sto) : compF [7] (gN 7) (tOf (eBin gtI (eVar 7) (eC (.int 0)))) (eVar 7) σ (.int z) st = .ok (if 0 < z then some (.int z) else none) st := by
  have hj : ((wipeD σ [7]).set 7 (some (.int z)))[7]? = some (some (.int z)) := List.getElem?_set_self h
  by_cases c : 0 < z
  · rw [if_pos c]
    simp [compF, hj, c]
  · rw [if_neg c]
    simp [compF, hj, c]
theorem iv {i : Nat} {σ : Sl} {ds : List D} {st : Sto} (h : σ[i]? = some (some (.lst ds))) : iVal (eVar i) σ st = .ok ds st := by
  have e : itemsOf (.lst ds) st = some ds := rfl
  simp [h, e]
end K10

set_option exponentiation.threshold 20000
set_option linter.all false
set_option maxRecDepth 100000
set_option maxHeartbeats 4000000
namespace K10
open PySem PySem.Spec PyProof.Rows L2 Sim
open PySem.PyData (strOk)
/-! ### what is drawn -/
theorem nor_cons {o : Option O} (h : BInv o) {sr : Sto} (hs : NoR sr) : NoR (o :: sr) := (nr_bag h).app hs
theorem nor_nil : NoR [] := fun _ => rfl
theorem nor_sn {sr : Sto} {ds : List D} (h : NoR sr) (hd : NRs ds) : NoR (sr ++ [some (.lst ds)]) := h.app (nr_lst hd)
/-! steps -/
theorem spread_m {z w r s0 : D} {k g : Int} {zs ys al : List D} {n : Nat} {st s1 s2 s3 : Sto} (e1 : f__law_of [.ref 0, .lst [.int 0, .int 1, .int 0, .int 2, .int 0, .int 1, .int 3]] st = .ok (.int g) s1) (er : repL false (.lst [.tup [.int 0, .int 1]]) (.int g) s1 = .ok (.lst zs) s1) (hz : zs.length ≤ 100) (e2 : f__law_full [.ref 0] s1 = .ok w s2) (hs0 : s0 = .lst (z :: (zs ++ [w])))
    (b : big k = true) (t : k.toNat = n) (ec : compM (compF [5] (gN 5) tTrue (eCall f__law_number (aCons (eVar 0) aNil) []) [some (.ref 0), some (.int k), some z, some (.int g), some s0, none]) (intsL 0 n) s2 = .ok ys s3) (m : mkL false ys s3 = .ok (.lst ys) s3) (hy : ys.length ≤ 100) (ha : al = z :: (zs ++ [w]) ++ ys) (es : slD false (.lst al) none (some k) s3 = .ok r s3) :
    m__law_spread [some (.ref 0), some (.int k), some z, none, none, none] st = .rt r s3 := by
  have l1 : ∀ s, mkL false [.tup [.int 0, .int 1]] s = .ok (.lst [.tup [.int 0, .int 1]]) s := fun s => mkF _ (by simp) s
  have l2 : ∀ s, mkL false [z] s = .ok (.lst [z]) s := fun s => mkF _ (by simp) s
  have l3 : ∀ s, mkL false [w] s = .ok (.lst [w]) s := fun s => mkF _ (by simp) s
  have l7 : ∀ s, mkL false [.int 0, .int 1, .int 0, .int 2, .int 0, .int 1, .int 3] s = .ok (.lst [.int 0, .int 1, .int 0, .int 2, .int 0, .int 1, .int 3]) s := fun s => mkF _ (by simp) s
  have c1 : ∀ s, catL false (.lst [z]) (.lst zs) s = .ok (.lst (z :: zs)) s := fun s => by rw [catE]; exact mkF _ (by simp; omega) s
  have c2 : ∀ s, catL false (.lst (z :: zs)) (.lst [w]) s = .ok s0 s := fun s => by rw [catE, hs0]; exact mkF _ (by simp; omega) s
  have c3 : ∀ s, catL false s0 (.lst ys) s = .ok (.lst al) s := fun s => by rw [hs0, catE, ha]; exact mkF _ (by simp; omega) s
  unfold m__law_spread
  refine (seq_nx (σ1 := [some (.ref 0), some (.int k), some z, some (.int g), none, none]) (st1 := s1) (by simp [-mkL_val, l7, e1])).trans ?_
  refine (seq_nx (σ1 := [some (.ref 0), some (.int k), some z, some (.int g), some s0, none]) (st1 := s2) (by simp [-mkL_val, two_le_line, l1, l2, l3, er, e2, c1, c2])).trans ?_
  refine ret_of ?_
  simp [-mkL_val, eComp, b, t, ec, m, c3, eSl, es]
theorem spread {o : Option O} (h : BInv o) {k : Int} {n : Nat} (hk : k = (n : Nat)) (h1 : 1 ≤ n) (h24 : n ≤ 24) {z : Rat} (hz : Bd 24 z) : ∃ (ys : List Rat) (o' : Option O), (∀ sr : Sto, f__law_spread [.ref 0, .int k, fr z] (o :: sr) = .ok (.lst (ys.map fr)) (o' :: sr)) ∧ BInv o' ∧ BdL 24 ys ∧ ys.length = n := by
  obtain ⟨g, hg, o1, e1, b1⟩ := of_ints h (ns := [0, 1, 0, 2, 0, 1, 3]) (by simp) (by simp)
  have hg2 : 0 ≤ g ∧ g ≤ 3 := by simp at hg; omega
  obtain ⟨w, o2, e2, b2, hw⟩ := full b1
  let zs : List Rat := tab 0 g.toNat (fun _ => 0)
  have zl : zs.length = g.toNat := tab_len ..
  obtain ⟨ys, o3, e3, b3, hy, hl⟩ := nums_comp (i := 5) (σ := [some (.ref 0), some (.int k), some (fr z), some (.int g), some (.lst (fr z :: (zs.map fr ++ [fr w]))), none]) rfl (by decide) n 0 o2 b2
  have hap : fr z :: (zs.map fr ++ [fr w]) ++ ys.map fr = (z :: (zs ++ [w]) ++ ys).map fr := by simp
  have ll : (z :: (zs ++ [w]) ++ ys).length = g.toNat + 2 + n := by simp [zl, hl]; omega
  refine ⟨(z :: (zs ++ [w]) ++ ys).take n, o3, fun sr => ?_, b3, fun x hx => ?_, by rw [List.length_take, ll]; omega⟩
  · unfold f__law_spread
    refine def_rt rfl ?_ (by simp)
    have es := sl_to (ds := (z :: (zs ++ [w]) ++ ys).map fr) (k := n) (ki := k) hk (by rw [List.length_map, ll]; omega) (o3 :: sr)
    rw [← List.map_take] at es
    simp only [List.map_cons, List.map_nil] at e1
    refine spread_m (e1 sr) (rep_zeros (g := g) (n := g.toNat) (by omega) (by omega) _) (by rw [List.length_map, tab_len]; omega) (e2 sr) rfl (big_of (by omega) (by omega)) (by omega) (e3 sr) (mkE ys (by omega) _) (by rw [List.length_map]; omega) hap.symm es
  · have hx := List.mem_of_mem_take hx
    have h0 : Bd 24 (0 : Rat) := ⟨by decide, by decide⟩
    simp only [List.mem_append, List.mem_cons, List.not_mem_nil, or_false] at hx
    rcases hx with (rfl | hx | rfl) | hx
    · exact hz
    · obtain ⟨i, _, rfl⟩ := tab_mem hx
      exact h0
    · exact hw
    · exact hy x hx
theorem lead_m {d : D} {st s1 : Sto} (e : f__law_of [.ref 0, .lst [.tup [.int 2, .int 1], .tup [.int 1, .int 2], .tup [.int (-1), .int 2], .tup [.int 3, .int 1], .tup [.int (-2), .int 1], .tup [.int 1, .int 3], .tup [.int 3, .int 2]]] st = .ok d s1) : m__law_lead [some (.ref 0)] st = .rt d s1 := by
  unfold m__law_lead
  simp [two_le_line, mkF, le_line, e]
theorem lead {o : Option O} (h : BInv o) : ∃ (x : Rat) (o' : Option O), (∀ sr : Sto, f__law_lead [.ref 0] (o :: sr) = .ok (fr x) (o' :: sr)) ∧ BInv o' ∧ Bd 24 x := by
  obtain ⟨d, hd, o2, e2, b2⟩ := of_lst h (ds := [.tup [.int 2, .int 1], .tup [.int 1, .int 2], .tup [.int (-1), .int 2], .tup [.int 3, .int 1], .tup [.int (-2), .int 1], .tup [.int 1, .int 3], .tup [.int 3, .int 2]]) (by simp) (by simp)
  have hd2 : ∃ y : Rat, d = fr y ∧ Bd 24 y := by
    simp only [List.mem_cons, List.not_mem_nil, or_false] at hd
    rcases hd with rfl | rfl | rfl | rfl | rfl | rfl | rfl
    · exact ⟨mkf 2 1, rfl, by decide, by decide⟩
    · exact ⟨mkf 1 2, rfl, by decide, by decide⟩
    · exact ⟨mkf (-1) 2, rfl, by decide, by decide⟩
    · exact ⟨mkf 3 1, rfl, by decide, by decide⟩
    · exact ⟨mkf (-2) 1, rfl, by decide, by decide⟩
    · exact ⟨mkf 1 3, rfl, by decide, by decide⟩
    · exact ⟨mkf 3 2, rfl, by decide, by decide⟩
  obtain ⟨y, rfl, hy⟩ := hd2
  refine ⟨y, o2, fun sr => ?_, b2, hy⟩
  unfold f__law_lead
  exact def_rt rfl (lead_m (e2 sr)) (by simp)
section
variable {k p : Int} {d z r : D} {st s1 s2 s3 : Sto}
theorem st_a (e1 : f__law_draw [.ref 0, .int 14] st = .ok (.int p) s1) (c : p < 2) (e : repL false (.lst [.tup [.int 0, .int 1]]) (.int (k - 1)) s1 = .ok z s1) (e2 : catL false (.lst [.tup [.int p, .int 1]]) z s1 = .ok r s1) : m__law_step [some (.ref 0), some (.int k), none] st = .rt r s1 := by
  have k1 : ∀ s, mkL false [.tup [.int 0, .int 1]] s = .ok (.lst [.tup [.int 0, .int 1]]) s := fun s => mkF _ (by simp) s
  have k2 : ∀ s, mkL false [.tup [.int p, .int 1]] s = .ok (.lst [.tup [.int p, .int 1]]) s := fun s => mkF _ (by simp) s
  unfold m__law_step
  simp [-mkL_val, e1, c, two_le_line, k1, k2, e, e2]
theorem st_b (e1 : f__law_draw [.ref 0, .int 14] st = .ok (.int p) s1) (c : ¬ p < 2) (c2 : p < 7) (e : f__law_spread [.ref 0, .int k, .tup [.int 1, .int 1]] s1 = .ok r s2) : m__law_step [some (.ref 0), some (.int k), none] st = .rt r s2 := by
  unfold m__law_step
  simp [e1, c, c2, two_le_line, e]
theorem st_c (e1 : f__law_draw [.ref 0, .int 14] st = .ok (.int p) s1) (c : ¬ p < 7) (c2 : p < 9) (e : f__law_spread [.ref 0, .int k, .tup [.int (-1), .int 1]] s1 = .ok r s2) : m__law_step [some (.ref 0), some (.int k), none] st = .rt r s2 := by
  have c0 : ¬ p < 2 := by omega
  unfold m__law_step
  simp [e1, c0, c, c2, two_le_line, e]
theorem st_d (e1 : f__law_draw [.ref 0, .int 14] st = .ok (.int p) s1) (c : ¬ p < 9) (c2 : p < 12) (e0 : f__law_lead [.ref 0] s1 = .ok d s2) (e : f__law_spread [.ref 0, .int k, d] s2 = .ok r s3) : m__law_step [some (.ref 0), some (.int k), none] st = .rt r s3 := by
  have c0 : ¬ p < 2 := by omega
  have c1 : ¬ p < 7 := by omega
  unfold m__law_step
  simp [e1, c0, c1, c, c2, e0, e]
theorem st_e (e1 : f__law_draw [.ref 0, .int 14] st = .ok (.int p) s1) (c : ¬ p < 12) (e : f__law_spread [.ref 0, .int k, .tup [.int 0, .int 1]] s1 = .ok r s2) : m__law_step [some (.ref 0), some (.int k), none] st = .rt r s2 := by
  have c0 : ¬ p < 2 := by omega
  have c1 : ¬ p < 7 := by omega
  have c2 : ¬ p < 9 := by omega
  unfold m__law_step
  simp [e1, c0, c1, c2, c, two_le_line, e]
end
theorem step_ {o : Option O} (h : BInv o) {k : Int} {n : Nat} (hk : k = ((n + 1 : Nat) : Int)) (h24 : n + 1 ≤ 24) : ∃ (ys : List Rat) (o' : Option O), (∀ sr : Sto, f__law_step [.ref 0, .int k] (o :: sr) = .ok (.lst (ys.map fr)) (o' :: sr)) ∧ BInv o' ∧ BdL 24 ys ∧ ys.length = n + 1 := by
  obtain ⟨p, o1, e1, b1, p0, p14⟩ := draw h (L := 14) (by decide) (by decide)
  have sp := fun (z : Rat) (hz : Bd 24 z) => spread b1 (k := k) (n := n + 1) hk (by omega) h24 hz
  by_cases c1 : p < 2
  · obtain ⟨x, hx, bx⟩ : ∃ x : Rat, D.tup [.int p, .int 1] = fr x ∧ Bd 24 x := by
      have : p = 0 ∨ p = 1 := by omega
      rcases this with rfl | rfl
      · exact ⟨0, rfl, by decide, by decide⟩
      · exact ⟨1, rfl, by decide, by decide⟩
    refine ⟨cRow x n, o1, fun sr => ?_, b1, fun y hy => ?_, by simp [tab_len]⟩
    · unfold f__law_step
      have c := cat_row (x := x) (n := n) (by omega) (o1 :: sr)
      rw [← hx] at c
      exact def_rt rfl (st_a (e1 sr) c1 (rep_zeros (n := n) (by omega) (by omega) _) c) (by simp)
    · rcases List.mem_cons.mp hy with rfl | hy
      · exact bx
      · obtain ⟨i, _, rfl⟩ := tab_mem hy
        exact ⟨by decide, by decide⟩
  by_cases c2 : p < 7
  · obtain ⟨ys, o2, e2, b2, hy, hl⟩ := sp 1 ⟨by decide, by decide⟩
    refine ⟨ys, o2, fun sr => ?_, b2, hy, hl⟩
    unfold f__law_step
    exact def_rt rfl (st_b (e1 sr) c1 c2 (e2 sr)) (by simp)
  by_cases c3 : p < 9
  · obtain ⟨ys, o2, e2, b2, hy, hl⟩ := sp (-1) ⟨by decide, by decide⟩
    refine ⟨ys, o2, fun sr => ?_, b2, hy, hl⟩
    unfold f__law_step
    exact def_rt rfl (st_c (e1 sr) c2 c3 (e2 sr)) (by simp)
  by_cases c4 : p < 12
  · obtain ⟨x, o2, e2, b2, hx⟩ := lead b1
    obtain ⟨ys, o3, e3, b3, hy, hl⟩ := spread b2 (k := k) (n := n + 1) hk (by omega) h24 hx
    refine ⟨ys, o3, fun sr => ?_, b3, hy, hl⟩
    unfold f__law_step
    exact def_rt rfl (st_d (e1 sr) c3 c4 (e2 sr) (e3 sr)) (by simp)
  · obtain ⟨ys, o2, e2, b2, hy, hl⟩ := sp 0 ⟨by decide, by decide⟩
    refine ⟨ys, o2, fun sr => ?_, b2, hy, hl⟩
    unfold f__law_step
    exact def_rt rfl (st_e (e1 sr) c4 (e2 sr)) (by simp)
end K10

set_option exponentiation.threshold 20000
set_option linter.all false
set_option maxRecDepth 100000
set_option maxHeartbeats 4000000
namespace K10
open PySem PySem.Spec PyProof.Rows L2 Sim
open PySem.PyData (strOk)
theorem nor_set {n : Nat} {ds : List D} (hd : NRs ds) : ∀ {st : Sto}, NoR st → ∀ {i : Nat}, NoR (st.set i (some (.lst ds))) := by
  intro st
  induction st with
  | nil => intro h i; simpa using h
  | cons a r ih =>
    intro h i
    have hr : NoR r := fun n => by
      have z := h n
      cases a with
      | none => exact z
      | some o =>
        cases o with
        | lst l => exact (Bool.and_eq_true_iff.mp (show (D.unds n l && stoBelow n r) = true from z)).2
        | ins C fs => exact (Bool.and_eq_true_iff.mp (show (D.undF n fs && stoBelow n r) = true from z)).2
    cases i with
    | zero => exact (nr_lst hd).app hr
    | succ i =>
      intro n
      have z := h n
      have q := ih hr (i := i) n
      show stoBelow n (a :: r.set i (some (.lst ds))) = true
      cases a with
      | none => exact q
      | some o =>
        cases o with
        | lst l =>
          show (D.unds n l && stoBelow n (r.set i (some (.lst ds)))) = true
          rw [q, (Bool.and_eq_true_iff.mp (show (D.unds n l && stoBelow n r) = true from z)).1]
          rfl
        | ins C fs =>
          show (D.undF n fs && stoBelow n (r.set i (some (.lst ds)))) = true
          rw [q, (Bool.and_eq_true_iff.mp (show (D.undF n fs && stoBelow n r) = true from z)).1]
          rfl
/-! ### what is refused -/
section
variable {d : D} {st : Sto} {y z : Option D}
theorem rg2 {n : Int} (l : lenD [d] st = .ok (.int n) st) (c1 : 2 ≤ n) (c2 : n ≤ 24) :
    (sIf (Sim.tNot (tOf (eChain leI leI (eC (.int 2)) (eBin subI (eCB lenD (aCons (eVar 0) aNil)) (eVar 1)) (eC (.int 24))))) (sRet (eLst false (aCons (eC (.str "InvalidOrder")) (aCons (eBin subI (eCB lenD (aCons (eVar 0) aNil)) (eVar 1)) aNil)))) sNil) [some d, some (.int 0), y, z] st = .nx [some d, some (.int 0), y, z] st := by
  simp [l, c1, c2]
theorem rg2_no {n : Int} (l : lenD [d] st = .ok (.int n) st) (c : ¬ (2 ≤ n ∧ n ≤ 24)) :
    (sIf (Sim.tNot (tOf (eChain leI leI (eC (.int 2)) (eBin subI (eCB lenD (aCons (eVar 0) aNil)) (eVar 1)) (eC (.int 24))))) (sRet (eLst false (aCons (eC (.str "InvalidOrder")) (aCons (eBin subI (eCB lenD (aCons (eVar 0) aNil)) (eVar 1)) aNil)))) sNil) [some d, some (.int 0), y, z] st = .rt (.lst [.str "InvalidOrder", .int n]) st := by
  have k1 : ∀ s, mkL false [.str "InvalidOrder", .int n] s = .ok (.lst [.str "InvalidOrder", .int n]) s := fun s => mkF _ (by simp) s
  by_cases c1 : 2 ≤ n
  · have c2 : ¬ n ≤ 24 := fun q => c ⟨c1, q⟩
    simp [-mkL_val, l, c1, c2, k1]
  · simp [-mkL_val, l, c1, k1]
end
section
end
theorem pl_sayi (s : Str) (h : strOk s = true) (i : Int) : Pl 1 (.lst [.str s, .int i]) := pl_two (pl_str _ h) (.int _ _)
/-! ### lists that are drawn -/
/-- the fixed ones -/
def fixR (s a b : D) : List D := [.non, .bl true, .int 3, .str "", .str "11", .str "1 2 3", s, .tup [.int 1, .int 2], .tup [.int 1, .int 1], a, .tup [], b, .tup [.tup [.int 1, .int 2], .tup [.int 1, .int 3]]]
theorem fixr_nr {d : D} {n m : Nat} (h : d ∈ fixR stepD (.ref n) (.ref m)) : NR d ∨ d = .ref n ∨ d = .ref m := by
  unfold fixR at h
  simp only [List.mem_cons, List.not_mem_nil, or_false] at h
  rcases h with rfl | rfl | rfl | rfl | rfl | rfl | rfl | rfl | rfl | rfl | rfl | rfl | rfl
  all_goals first | exact .inl fun _ => rfl | exact .inr (.inl rfl) | exact .inr (.inr rfl)
theorem ne_refn (xs : List Rat) {n : Nat} {st : Sto} (h : st[n]? = some (some (.lst (xs.map fr)))) : brw2 neD (.ref n) (.lst []) st = .ok (.bl (!xs.isEmpty)) st := by
  have hp : peek st (.ref n) = .lst (xs.map fr) := by unfold peek; simp only [h]
  have hp2 : peek st (.lst []) = .lst [] := rfl
  have hu : D.und 0 (.lst (xs.map fr)) = true := nr_lst' (nrs_fr xs) 0
  have hu2 : D.und 0 (.lst []) = true := nr_lst' .nil 0
  have hn := ne_nil xs []
  unfold brw2
  rw [if_pos (by rfl), hp, hp2, hu, hu2, hn]
  rfl
/-- the end of a def whose value may be a list of the store -/
theorem def_keep {k n m : Nat} {ms : Sm} {as : List D} {o o' : Option O} {sr ex : Sto} (hk : as.length = k) (h : ms (as.map some ++ List.replicate (n - as.length) none) (o :: sr) = .rt (.ref m) (o' :: (sr ++ ex))) (hm : sr.length < m) (hx : 0 < ex.length) : chk k (runDef n ms) as (o :: sr) = .ok (.ref m) (o' :: (sr ++ ex)) := by
  unfold chk
  rw [if_pos hk]
  unfold runDef
  rw [h]
  show finR (o :: sr).length (.ref m) (o' :: (sr ++ ex)) = _
  unfold finR
  have c : D.und (o :: sr).length (.ref m) = false := by simp [D.und]; omega
  rw [if_neg (by simp; omega), if_neg (by rw [c]; simp)]
theorem def_drop {k n : Nat} {ms : Sm} {as : List D} {d : D} {o o' : Option O} {sr ex : Sto} (hk : as.length = k) (h : ms (as.map some ++ List.replicate (n - as.length) none) (o :: sr) = .rt d (o' :: (sr ++ ex))) (hd : NR d) (hs : NoR (o' :: sr)) : chk k (runDef n ms) as (o :: sr) = .ok d (o' :: sr) := by
  unfold chk
  rw [if_pos hk]
  unfold runDef
  rw [h]
  exact finR_cut (st := o' :: sr) hd hs
end K10

set_option exponentiation.threshold 20000
set_option linter.all false
set_option maxRecDepth 100000
set_option maxHeartbeats 4000000
namespace K10
open PySem PySem.Spec PyProof.Rows L2 Sim
open PySem.PyData (strOk)
/-! ### lists of the store that are changed -/
theorem sd_at {st : Sto} {n : Nat} {ds : List D} (h : st[n]? = some (some (.lst ds))) {i : Nat} {ii : Int} {v : D} (hi : ii = (i : Nat)) (hl : i < ds.length) : setD (.ref n) (.int ii) v st = some (st.set n (some (.lst (ds.set i v)))) := by
  unfold setD
  have e : ixN ds.length ii = some i := by
    unfold ixN
    rw [if_pos (by omega), if_pos (by omega)]
    congr 1
    omega
  simp only [h, e]
theorem app_at {st : Sto} {n : Nat} {ds : List D} (h : st[n]? = some (some (.lst ds))) {v : D} (hl : ds.length < 10000) : mutD fAppend (.ref n) [v] st = .ok .non (st.set n (some (.lst (ds ++ [v])))) := by
  unfold mutD fAppend wrL
  simp only [h, if_pos (Nat.lt_of_lt_of_le hl (show 10000 ≤ line by decide))]
theorem isT_at {st : Sto} {n : Nat} {ds : List D} (h : st[n]? = some (some (.lst ds))) : Sim.isT "list" (.ref n) st = true := by
  have e : Sim.listOf (.ref n) st = some ds := by
    show Sim.itemsOf (.ref n) st = some ds
    unfold Sim.itemsOf
    simp only [h]
  show (("list" : String) == "list" && (Sim.listOf (.ref n) st).isSome) = true
  rw [e]
  rfl
theorem isl_at {st : Sto} {n : Nat} {ds : List D} (h : st[n]? = some (some (.lst ds))) : isiD (isB "list" clsL) (.ref n) st = .ok (.bl true) st := by
  unfold isiD tgOf
  simp only [h]
  rfl
theorem get_set {st : Sto} {n : Nat} {x : Option O} (h : st[n]? ≠ none) : (st.set n x)[n]? = some x := by
  have hl : n < st.length := by
    rcases Nat.lt_or_ge n st.length with q | q
    · exact q
    · exact absurd (List.getElem?_eq_none q) h
  exact List.getElem?_set_self hl
/-! ### `_law_made_so` -/
section
variable {d u w t : D} {st s1 s2 : Sto} {x3 x4 x5 : Option D}
abbrev chaB : Sm := (sIf (tOf (eUn (isiD (isB "list" clsL)) (eVar 1))) (sSeq (sSetIx (eTup (aCons (eC (.int 9)) (aCons (eC (.int 7)) aNil))) (eVar 1) (eCall f__law_draw (aCons (eVar 0) (aCons (eCB lenD (aCons (eVar 1) aNil)) aNil)) [])) (sExpr (eBM "list" (mutD fAppend) (eVar 1) (aCons (eTup (aCons (eC (.int 2)) (aCons (eC (.int 1)) aNil))) aNil)))) sNil)
theorem mg6_n (i : isiD (isB "list" clsL) d st = .ok (.bl false) st) : chaB [some (.ref 0), some d, some .non, x3, x4, x5] st = .nx [some (.ref 0), some d, some .non, x3, x4, x5] st := by
  simp [i]
theorem mg6 {n r : D} {s3 s4 : Sto} (i : isiD (isB "list" clsL) d st = .ok (.bl true) st) (l : lenD [d] st = .ok n st) (e : f__law_draw [.ref 0, n] st = .ok r s2) (e3 : setD d r (.tup [.int 9, .int 7]) s2 = some s3) (ti : Sim.isT "list" d s3 = true) (e4 : mutD fAppend d [.tup [.int 2, .int 1]] s3 = .ok .non s4) : chaB [some (.ref 0), some d, some .non, x3, x4, x5] st = .nx [some (.ref 0), some d, some .non, x3, x4, x5] s4 := by
  simp [i, two_le_line, l, e, e3, ti, e4]
end
end K10

set_option exponentiation.threshold 20000
set_option linter.all false
set_option maxRecDepth 100000
set_option maxHeartbeats 4000000
namespace K10
open PySem PySem.Spec PyProof.Rows L2 Sim
open PySem.PyData (strOk)
/-! ### the first difference -/
def fdf : List Rat → List Rat → Option Nat
  | x :: xs, y :: ys => if x = y then (fdf xs ys).map (· + 1) else some 0
  | _, _ => none
theorem fdf_c (x y : Rat) (xs ys : List Rat) : fdf (x :: xs) (y :: ys) = if x = y then (fdf xs ys).map (· + 1) else some 0 := rfl
theorem fdf_none : ∀ {xs ys : List Rat}, xs.length = ys.length → fdf xs ys = none → xs = ys
  | [], [], _, _ => rfl
  | [], _ :: _, h, _ => by simp at h
  | _ :: _, [], h, _ => by simp at h
  | x :: xs, y :: ys, h, e => by
    rw [fdf_c] at e
    by_cases c : x = y
    · rw [if_pos c] at e
      rw [c, fdf_none (by simpa using h) (Option.map_eq_none_iff.mp e)]
    · rw [if_neg c] at e
      cases e
theorem fdf_self : ∀ xs : List Rat, fdf xs xs = none
  | [] => rfl
  | x :: xs => by rw [fdf_c, if_pos rfl, fdf_self xs]; rfl
/-- the places, counted from k + 1, at which two lists differ -/
def dl (k : Nat) : List Rat → List Rat → List Int
  | x :: xs, y :: ys => if x = y then dl (k + 1) xs ys else ((k + 1 : Nat) : Int) :: dl (k + 1) xs ys
  | _, _ => []
theorem dl_c (k : Nat) (x y : Rat) (xs ys : List Rat) : dl k (x :: xs) (y :: ys) = if x = y then dl (k + 1) xs ys else ((k + 1 : Nat) : Int) :: dl (k + 1) xs ys := rfl
theorem dl_head : ∀ (xs ys : List Rat) (k : Nat), (dl k xs ys).head? = (fdf xs ys).map fun i => ((k + i + 1 : Nat) : Int)
  | [], _, _ => by cases ‹List Rat› <;> rfl
  | _ :: _, [], _ => rfl
  | x :: xs, y :: ys, k => by
    rw [dl_c, fdf_c]
    by_cases c : x = y
    · rw [if_pos c, if_pos c, dl_head xs ys (k + 1)]
      cases fdf xs ys with
      | none => rfl
      | some i =>
        show some (((k + 1 + i + 1 : Nat)) : Int) = some (((k + (i + 1) + 1 : Nat)) : Int)
        rw [show k + 1 + i + 1 = k + (i + 1) + 1 by omega]
    · rw [if_neg c, if_neg c]
      rfl
theorem dl_len : ∀ (xs ys : List Rat) (k : Nat), (dl k xs ys).length ≤ xs.length
  | [], _, _ => by cases ‹List Rat› <;> exact Nat.le_refl _
  | _ :: _, [], _ => Nat.zero_le _
  | x :: xs, y :: ys, k => by
    rw [dl_c]
    have := dl_len xs ys (k + 1)
    split <;> simp <;> omega
theorem ne_fr (x y : Rat) (st : Sto) : neD (fr x) (fr y) st = .ok (.bl (!decide (x = y))) st := by
  have e := eq_fr x y st
  unfold eqD at e
  unfold neD
  cases h1 : Sim.pyOf (fr x) st with
  | none => rw [h1] at e; simp at e
  | some a =>
    cases h2 : Sim.pyOf (fr y) st with
    | none => rw [h1, h2] at e; simp at e
    | some b =>
      rw [h1, h2] at e
      simp only at e ⊢
      split at e
      · rename_i h
        rw [if_pos h]
        have : PyData.eqv a b = decide (x = y) := by
          injection e with e _
          injection e
        rw [this]
      · cases e
theorem ne_frs (xs ys : List Rat) (st : Sto) : neD (.lst (xs.map fr)) (.lst (ys.map fr)) st = .ok (.bl (!decide (xs = ys))) st := by
  have e := eqD_fr xs ys st
  unfold eqD at e
  unfold neD
  cases h1 : Sim.pyOf (.lst (xs.map fr)) st with
  | none => rw [h1] at e; simp at e
  | some a =>
    cases h2 : Sim.pyOf (.lst (ys.map fr)) st with
    | none => rw [h1, h2] at e; simp at e
    | some b =>
      rw [h1, h2] at e
      simp only at e ⊢
      split at e
      · rename_i h
        rw [if_pos h]
        have : PyData.eqv a b = decide (xs = ys) := by
          injection e with e _
          injection e
        rw [this]
      · cases e
theorem fd_range {r : D} {n : Int} {m : Nat} {σ : Sl} {st : Sto} (h0 : σ[0]? = some (some r)) (a : attD "order" r st = .ok (.int n) st) (b : big (n + 1) = true) (t : (n + 1 - 1).toNat = m) : iRange2 (aCons (eC (.int 1)) (aCons (eBin addD (eUn (attD "order") (eVar 0)) (eC (.int 1))) aNil)) σ st = .ok (intsL 1 m) st := by
  have b1 : big 1 = true := by decide
  have t' : n.toNat = m := by
    have : n + 1 - 1 = n := by omega
    rw [this] at t
    exact t
  simp [h0, a, b, b1, t']
/-! ### `_law_compared_so` -/
section
variable {a b f g t u : D} {st : Sto} {x2 x3 x6 : Option D}
theorem cp1 {m1 m2 : Em} (e1 : m1 [some a, some b, none, none, none, none, none] st = .ok f st) (e2 : m2 [some a, some b, none, none, none, none, none] st = .ok g st) : (sAsg (eTup (aCons m1 (aCons m2 aNil))) (gT 2 (gsCons (gN 4) (gsCons (gN 5) gsNil)))) [some a, some b, none, none, none, none, none] st = .nx [some a, some b, none, none, some f, some g, none] st := by
  simp [e1, e2, two_le_line]
theorem cp3 : (sSet 3 (eLst false (aCons (eC (.str "told")) (aCons (eC .non) aNil)))) [some a, some b, x2, none, some f, some g, none] st = .nx [some a, some b, x2, some (.lst [.str "told", .non]), some f, some g, none] st := by
  have k1 : ∀ z, mkL false [.str "told", .non] z = .ok (.lst [.str "told", .non]) z := fun z => mkF _ (by simp) z
  simp [-mkL_val, k1]
abbrev cpB : Sm := (sIf (tOf (eBin neD (eCB lenD (aCons (eVar 0) aNil)) (eCB lenD (aCons (eVar 1) aNil)))) (sSet 3 (eLst false (aCons (eC (.str "UnlikeOrders")) (aCons (eCB lenD (aCons (eVar 0) aNil)) (aCons (eCB lenD (aCons (eVar 1) aNil)) aNil))))) (sIf (tOf (eBin neD (eVar 0) (eVar 1))) (sSet 3 (eLst false (aCons (eC (.str "told")) (aCons (eBin ixD (eComp false [6] (iRange1 (aCons (eCB lenD (aCons (eVar 0) aNil)) aNil)) (gN 6) (tOf (eBin neD (eBin ixD (eVar 0) (eVar 6)) (eBin ixD (eVar 1) (eVar 6)))) (eBin addD (eVar 6) (eC (.int 1)))) (eC (.int 0))) aNil)))) sNil))
theorem cp4a {n m : Int} (l1 : lenD [a] st = .ok (.int n) st) (l2 : lenD [b] st = .ok (.int m) st) (h : ¬ n = m) : cpB [some a, some b, x2, x3, some f, some g, x6] st = .nx [some a, some b, x2, some (.lst [.str "UnlikeOrders", .int n, .int m]), some f, some g, x6] st := by
  have k1 : ∀ z, mkL false [.str "UnlikeOrders", .int n, .int m] z = .ok (.lst [.str "UnlikeOrders", .int n, .int m]) z := fun z => mkF _ (by simp) z
  simp [-mkL_val, l1, l2, neD_int, decide_eq_false h, k1]
theorem cp4b {n : Int} (l1 : lenD [a] st = .ok (.int n) st) (l2 : lenD [b] st = .ok (.int n) st) (ne : neD a b st = .ok (.bl false) st) : cpB [some a, some b, x2, x3, some f, some g, x6] st = .nx [some a, some b, x2, x3, some f, some g, x6] st := by
  simp [l1, l2, neD_int, ne]
theorem cp4c {n : Int} {c v : D} (l1 : lenD [a] st = .ok (.int n) st) (l2 : lenD [b] st = .ok (.int n) st) (ne : neD a b st = .ok (.bl true) st) (ec : eComp false [6] (iRange1 (aCons (eCB lenD (aCons (eVar 0) aNil)) aNil)) (gN 6) (tOf (eBin neD (eBin ixD (eVar 0) (eVar 6)) (eBin ixD (eVar 1) (eVar 6)))) (eBin addD (eVar 6) (eC (.int 1))) [some a, some b, x2, x3, some f, some g, x6] st = .ok c st) (i : ixD c (.int 0) st = .ok v st) :
    cpB [some a, some b, x2, x3, some f, some g, x6] st = .nx [some a, some b, x2, some (.lst [.str "told", v]), some f, some g, x6] st := by
  have k1 : ∀ z, mkL false [.str "told", v] z = .ok (.lst [.str "told", v]) z := fun z => mkF _ (by simp) z
  unfold cpB
  generalize eComp false [6] (iRange1 (aCons (eCB lenD (aCons (eVar 0) aNil)) aNil)) (gN 6) (tOf (eBin neD (eBin ixD (eVar 0) (eVar 6)) (eBin ixD (eVar 1) (eVar 6)))) (eBin addD (eVar 6) (eC (.int 1))) = me at *
  simp [-mkL_val, l1, l2, neD_int, ne, ec, i, k1]
theorem cp5 {c : Bool} (hl : f__law_like 6 [.lst [t, t], .lst [t, t]] st = .ok (.bl true) st) (e1 : eqO "Step" clsL f_Step___eq__ f g st = .ok (.bl c) st) (e2 : eqO "Step" clsL f_Step___eq__ g f st = .ok (.bl c) st) (q : eqD a b st = .ok (.bl c) st) :
    (sRet (eAnd (eCall (f__law_like 6) (aCons (eVar 2) (aCons (eLst false (aCons (eVar 3) (aCons (eVar 3) aNil))) aNil)) []) (eAnd (eBin eqD (eBin (eqO "Step" clsL f_Step___eq__) (eVar 4) (eVar 5)) (eBin eqD (eVar 0) (eVar 1))) (eBin eqD (eBin (eqO "Step" clsL f_Step___eq__) (eVar 5) (eVar 4)) (eBin eqD (eVar 0) (eVar 1)))))) [some a, some b, some (.lst [t, t]), some t, some f, some g, x6] st = .rt (.bl true) st := by
  have k1 : ∀ z, mkL false [t, t] z = .ok (.lst [t, t]) z := fun z => mkF _ (by simp) z
  have q2 := eqD_blS c st
  simp [-mkL_val, k1, hl, e1, e2, q, q2]
end
theorem fd_comp {xs ys : List Rat} {σ : Sl} {st : Sto} (hj : (wipeD σ [6]).length > 6) (h0 : ∀ ii : Int, ((wipeD σ [6]).set 6 (some (.int ii)))[0]? = some (some (.lst (xs.map fr)))) (h1 : ∀ ii : Int, ((wipeD σ [6]).set 6 (some (.int ii)))[1]? = some (some (.lst (ys.map fr)))) : ∀ (us vs : List Rat) (k : Nat) (lo : Int), lo = (k : Nat) → us.length = vs.length → (∀ i u, us[i]? = some u → xs[k + i]? = some u) → (∀ i v, vs[i]? = some v → ys[k + i]? = some v) →
    compM (compF [6] (gN 6) (tOf (eBin neD (eBin ixD (eVar 0) (eVar 6)) (eBin ixD (eVar 1) (eVar 6)))) (eBin addD (eVar 6) (eC (.int 1))) σ) (intsL lo us.length) st = .ok ((dl k us vs).map .int) st
  | [], [], _, _, _, _, _, _ => rfl
  | [], _ :: _, _, _, _, h, _, _ => by simp at h
  | _ :: _, [], _, _, _, h, _, _ => by simp at h
  | u :: us, v :: vs, k, lo, hlo, hl, hx, hy => by
    have ih := fd_comp (st := st) hj h0 h1 us vs (k + 1) (lo + 1) (by omega) (by simpa using hl) (fun i u h => by have := hx (i + 1) u (by simpa using h); rw [show k + 1 + i = k + (i + 1) by omega]; exact this) (fun i u h => by have := hy (i + 1) u (by simpa using h); rw [show k + 1 + i = k + (i + 1) by omega]; exact this)
    have hc : intsL lo (u :: us).length = .int lo :: intsL (lo + 1) us.length := intsL_cons lo us.length
    rw [hc]
    unfold compM
    have g0 := h0 lo
    have g1 := h1 lo
    have gj : ((wipeD σ [6]).set 6 (some (.int lo)))[6]? = some (some (.int lo)) := List.getElem?_set_self hj
    have e1 := ix_fr xs (i := k) hlo (hx 0 u rfl) st _ (.inl rfl)
    have e2 := ix_fr ys (i := k) hlo (hy 0 v rfl) st _ (.inl rfl)
    have ne := ne_fr u v st
    have e : compF [6] (gN 6) (tOf (eBin neD (eBin ixD (eVar 0) (eVar 6)) (eBin ixD (eVar 1) (eVar 6)))) (eBin addD (eVar 6) (eC (.int 1))) σ (.int lo) st = .ok (if u = v then none else some (.int (lo + 1))) st := by
      generalize fr u = fu at *
      generalize fr v = fv at *
      generalize xs.map fr = xx at *
      generalize ys.map fr = yy at *
      by_cases c : u = v
      · rw [decide_eq_true c] at ne
        rw [if_pos c]
        simp [compF, g0, g1, gj, e1, e2, ne]
      · rw [decide_eq_false c] at ne
        rw [if_neg c]
        simp [compF, g0, g1, gj, e1, e2, ne]
    rw [e, dl_c]
    by_cases c : u = v
    · rw [if_pos c, if_pos c]
      simp only [ih]
    · rw [if_neg c, if_neg c]
      simp only [ih]
      show Res.ok (D.int (lo + 1) :: _) st = _
      rw [hlo]
      rfl
end K10

set_option exponentiation.threshold 20000
set_option linter.all false
set_option maxRecDepth 100000
set_option maxHeartbeats 4000000
namespace K10
open PySem PySem.Spec PyProof.Rows L2 Sim
open PySem.PyData (strOk)
/-! ### told twice alike -/
theorem ls_told (ys : List Rat) (st : Sto) : eqLs "Step" f_Step___eq__ (.lst [.str "told", stepV ys]) (.lst [.str "told", stepV ys]) st = .ok (.bl true) st := by
  have u : D.unds 0 [.str "told", stepV ys] = true := NRs.cons (nr_str _) (.cons (nr_stepV ys) .nil) 0
  have e1 : elB "Step" f_Step___eq__ (.str "told") (.str "told") = true := by
    show decide (("told" : Str) = "told") = true
    exact decide_eq_true rfl
  have e2 : elB "Step" f_Step___eq__ (stepV ys) (stepV ys) = true := by
    have h := f_s_eq ys ys []
    rw [decide_eq_true rfl] at h
    show (decide (("Step" : Str) = "Step") && (decide (("Step" : Str) = "Step") && sayT (f_Step___eq__ [stepV ys, stepV ys] []))) = true
    rw [h, decide_eq_true rfl]
    rfl
  have e3 : elsB "Step" f_Step___eq__ [.str "told", stepV ys] [.str "told", stepV ys] = true := by
    show (elB "Step" f_Step___eq__ (.str "told") (.str "told") && (elB "Step" f_Step___eq__ (stepV ys) (stepV ys) && true)) = true
    rw [e1, e2]
    rfl
  show (if (D.unds 0 [.str "told", stepV ys] && (D.unds 0 [.str "told", stepV ys] && elsB "Step" f_Step___eq__ [.str "told", stepV ys] [.str "told", stepV ys])) = true then Res.ok (D.bl true) st else .bad) = _
  rw [u, e3]
  rfl
section
variable {m : Str} {f : List D → Sto → Res D} {u x : D} {σ : Sl} {st : Sto} {j : Nat}
theorem mt1 (io : insOf "Step" m u st = true) (h2 : σ[2]? = some (some u)) (hj : σ[j]? = some (some x)) : eMeth "Step" m f (eVar 2) (aCons (eVar j) aNil) σ st = f [u, x] st := by
  simp [eMeth, h2, hj, io]
theorem mt1K (io : insOf "Step" m u st = true) (h2 : σ[2]? = some (some u)) (hj : σ[j]? = some (some x)) : eMethK "Step" m f 1 false (eVar 2) (aCons (eVar j) aNil) σ st = f [u, x] st := by
  simp [eMethK, h2, hj, io, gB]
end
/-! ### `_law_cut_so` -/
section
variable {a f s t w v : D} {st s1 s2 : Sto} {x3 x4 x5 x6 x7 : Option D}
theorem cu2 {n r : Int} (e1 : f__law_draw [.ref 0, .int 23] st = .ok (.int r) s1) (l : lenD [a] st = .ok (.int n) st) (e : f__law_of [.ref 0, .lst [.int 2, .int n, .int (n + 1), .int (2 + r)]] s1 = .ok s s2) :
    (sSet 3 (eCall f__law_of (aCons (eVar 0) (aCons (eLst false (aCons (eC (.int 2)) (aCons (eCB lenD (aCons (eVar 1) aNil)) (aCons (eBin addD (eCB lenD (aCons (eVar 1) aNil)) (eC (.int 1))) (aCons (eBin addD (eC (.int 2)) (eCall f__law_draw (aCons (eVar 0) (aCons (eC (.int 23)) aNil)) [])) aNil))))) aNil)) [])) [some (.ref 0), some a, some f, none, none, none, none, none] st = .nx [some (.ref 0), some a, some f, some s, none, none, none, none] s2 := by
  have k1 : ∀ z, mkL false [.int 2, .int n, .int (n + 1), .int (2 + r)] z = .ok (.lst [.int 2, .int n, .int (n + 1), .int (2 + r)]) z := fun z => mkF _ (by simp) z
  simp [-mkL_val, e1, l, k1, e]
theorem cu3 {k k2 : Int} (h : (k ≤ 24 ∧ k2 = k) ∨ (¬ k ≤ 24 ∧ k2 = 24)) : (sSet 3 (eIf (tOf (eBin leI (eVar 3) (eC (.int 24)))) (eVar 3) (eC (.int 24)))) [some (.ref 0), some a, some f, some (.int k), none, none, none, none] st = .nx [some (.ref 0), some a, some f, some (.int k2), none, none, none, none] st := by
  rcases h with ⟨h, rfl⟩ | ⟨h, rfl⟩ <;> simp [h]
theorem cu7 {n N : Int} (l : lenD [a] st = .ok (.int n) st) (eN : powI (.int 10) (.int 20) st = .ok (.int N) st) (e : f__law_of [.ref 0, .lst [.int 0, .int (n + 1), .int (-1), .non, .bl true, .bl false, .str "1", .tup [.int 1, .int 1], .lst [.int 1], .int N, .int (-n)]] st = .ok v s1) :
    (sSet 6 (eCall f__law_of (aCons (eVar 0) (aCons (eLst false (aCons (eC (.int 0)) (aCons (eBin addD (eCB lenD (aCons (eVar 1) aNil)) (eC (.int 1))) (aCons (eUn negI (eC (.int 1))) (aCons (eC .non) (aCons (eC (.bl true)) (aCons (eC (.bl false)) (aCons (eC (.str "1")) (aCons (eTup (aCons (eC (.int 1)) (aCons (eC (.int 1)) aNil))) (aCons (eLst false (aCons (eC (.int 1)) aNil)) (aCons (eBin powI (eC (.int 10)) (eC (.int 20))) (aCons (eUn negI (eCB lenD (aCons (eVar 1) aNil))) aNil)))))))))))) aNil)) [])) [some (.ref 0), some a, some f, x3, x4, some w, none, x7] st = .nx [some (.ref 0), some a, some f, x3, x4, some w, some v, x7] s1 := by
  have k1 : ∀ s, mkL false [.int 1] s = .ok (.lst [.int 1]) s := fun s => mkF _ (by simp) s
  have k10 : ∀ s, mkL false [.int 0, .int (n + 1), .int (-1), .non, .bl true, .bl false, .str "1", .tup [.int 1, .int 1], .lst [.int 1], .int N, .int (-n)] s = .ok (.lst [.int 0, .int (n + 1), .int (-1), .non, .bl true, .bl false, .str "1", .tup [.int 1, .int 1], .lst [.int 1], .int N, .int (-n)]) s := fun s => mkF _ (by simp) s
  simp [-mkL_val, l, eN, two_le_line, k1, k10, e]
theorem cu8 {m1 m2 m3 : Em} {p q r : D} (e1 : m1 [some (.ref 0), some a, some f, x3, x4, some w, some v, x7] st = .ok p st) (e2 : m2 [some (.ref 0), some a, some f, x3, x4, some w, some v, x7] st = .ok q st) (e3 : m3 [some (.ref 0), some a, some f, x3, x4, some w, some v, x7] st = .ok r st) : (sSet 4 (eLst false (aCons m1 (aCons m2 (aCons m3 aNil))))) [some (.ref 0), some a, some f, x3, x4, some w, some v, x7] st = .nx [some (.ref 0), some a, some f, x3, some (.lst [p, q, r]), some w, some v, x7] st := by
  have k : ∀ s, mkL false [p, q, r] s = .ok (.lst [p, q, r]) s := fun s => mkF _ (by simp) s
  simp [-mkL_val, e1, e2, e3, k]
theorem cu9 {t : D} (ht : t = .lst [.lst [.str "InvalidOrder", w], .lst [.str "InvalidPlace", v], .lst [.str "InvalidPlace", v]]) (hl : f__law_like 6 [t, t] st = .ok (.bl true) st) :
    (sRet (eCall (f__law_like 6) (aCons (eVar 4) (aCons (eLst false (aCons (eLst false (aCons (eC (.str "InvalidOrder")) (aCons (eVar 5) aNil))) (aCons (eLst false (aCons (eC (.str "InvalidPlace")) (aCons (eVar 6) aNil))) (aCons (eLst false (aCons (eC (.str "InvalidPlace")) (aCons (eVar 6) aNil))) aNil)))) aNil)) [])) [some (.ref 0), some a, some f, x3, some t, some w, some v, x7] st = .rt (.bl true) st := by
  have k0 : ∀ s, mkL false [.str "InvalidOrder", w] s = .ok (.lst [.str "InvalidOrder", w]) s := fun s => mkF _ (by simp) s
  have k1 : ∀ s, mkL false [.str "InvalidPlace", v] s = .ok (.lst [.str "InvalidPlace", v]) s := fun s => mkF _ (by simp) s
  have k2 : ∀ s, mkL false [.lst [.str "InvalidOrder", w], .lst [.str "InvalidPlace", v], .lst [.str "InvalidPlace", v]] s = .ok t s := fun s => by rw [ht]; exact mkF _ (by simp) s
  simp [-mkL_val, k0, k1, k2, hl]
end
/-! ### `_law_scaling_so` -/
section
variable {c s t u w : D} {st : Sto} {x3 x4 x5 x6 : Option D}
end
theorem pl_four {n : Nat} {a b : D} (ha : Pl n a) (hb : Pl n b) : Pl (n + 1) (.lst [a, a, b, b]) := plL (by simp) (by simp; exact ⟨ha, hb⟩)
end K10

set_option exponentiation.threshold 20000
set_option linter.all false
set_option maxRecDepth 100000
set_option maxHeartbeats 4000000
namespace K10
open PySem PySem.Spec PyProof.Rows L2 Sim
open PySem.PyData (strOk)
/-! ### products, with bounds of one's own -/
theorem outLoop {n : Nat} {U W : Nat → Rat} {a b c : Nat} (hU : ∀ i, i < n → Bd a (U i)) (hW : ∀ i, i < n → Bd b (W i)) (hc : ∀ k m, k < n → m ≤ k + 1 → Bd c (cs U W k m)) (hb : c + (a + b) ≤ 8000) (hn : n ≤ 1000) (st : Sto) (x0 x6 : Option D) (ni : Int) (hni : ni = (n : Nat)) : ∀ (m k : Nat) (x4 x5 x7 : Option D), k + m = n →
    ∃ x4' x5' x7', Sim.forM (inTurn g45 outB) (enumD k ((tab k m U).map fr)) [x0, some (.lst ((tab 0 n W).map fr)), some (.int ni), some (.ref st.length), x4, x5, x6, x7] (st ++ [some (.lst ((tab 0 n (fun q => cs U W q (min k (q + 1)))).map fr))]) = .nx [x0, some (.lst ((tab 0 n W).map fr)), some (.int ni), some (.ref st.length), x4', x5', x6, x7'] (st ++ [some (.lst ((tab 0 n (fun q => cs U W q (q + 1))).map fr))])
  | 0, k, x4, x5, x7, hk => by
    refine ⟨x4, x5, x7, ?_⟩
    have e : tab 0 n (fun q => cs U W q (min k (q + 1))) = tab 0 n (fun q => cs U W q (q + 1)) := tab_congr _ _ _ _ fun q _ h => by rw [show min k (q + 1) = q + 1 by omega]
    rw [e]
    rfl
  | m + 1, k, x4, x5, x7, hk => by
    obtain ⟨ki, hki⟩ : ∃ ki : Int, ki = (k : Nat) := ⟨_, rfl⟩
    have hz : (U k).num = 0 ↔ U k = 0 := num0
    have i1 := fr0 (U k)
    have hstep : ∀ R : Nat → Rat, (∀ q, q < n → R q = cs U W q (min (k + 1) (q + 1))) → tab 0 n R = tab 0 n (fun q => cs U W q (min (k + 1) (q + 1))) := fun R h => tab_congr _ _ _ _ fun q _ hq => h q (by omega)
    by_cases cz : U k = 0
    · obtain ⟨x4', x5', x7', ih⟩ := outLoop hU hW hc hb hn st x0 x6 ni hni m (k + 1) (some (.int (k : Nat))) (some (fr (U k))) x7 (by omega)
      refine ⟨x4', x5', x7', ?_⟩
      have e : tab 0 n (fun q => cs U W q (min k (q + 1))) = tab 0 n (fun q => cs U W q (min (k + 1) (q + 1))) := hstep _ fun q hq => by
        show cs U W q (min k (q + 1)) = _
        by_cases z : k ≤ q
        · rw [show min k (q + 1) = k by omega, show min (k + 1) (q + 1) = k + 1 by omega]
          show _ = cs U W q k + U k * W (q - k)
          rw [cz]
          grind
        · rw [show min k (q + 1) = q + 1 by omega, show min (k + 1) (q + 1) = q + 1 by omega]
      rw [e, ← ih]
      show Sim.forM _ (enumD k (fr (U k) :: (tab (k + 1) m U).map fr)) _ _ = _
      rw [enumD_c, forM_c]
      have c' := hz.mpr cz
      generalize fr (U k) = f1 at *
      generalize (U k).num = un at *
      generalize (tab 0 n W).map fr = ww at *
      generalize (tab (k + 1) m U).map fr = uu at *
      generalize (tab 0 n (fun q => cs U W q (min (k + 1) (q + 1)))).map fr = rr at *
      simp [inTurn, i1, neD_int, decide_eq_true c']
    · obtain ⟨x7a, e1⟩ := inLoop (n := n) (at_ := k) (W := W) (u := U k) (a := a) (b := b) (c := c) (hU k (by omega)) hW hb st x0 (some (.int ni)) ki hki (n - k) k ki (fun q => cs U W q (min k (q + 1))) x6 x7 hki (by omega) (Nat.le_refl _) (fun q h1 h2 => hc q (min k (q + 1)) h2 (by omega))
      obtain ⟨x4', x5', x7', ih⟩ := outLoop hU hW hc hb hn st x0 x6 ni hni m (k + 1) (some (.int ki)) (some (fr (U k))) x7a (by omega)
      refine ⟨x4', x5', x7', ?_⟩
      have e : tab 0 n (fun q => if k ≤ q ∧ q < k + (n - k) then (fun q => cs U W q (min k (q + 1))) q + U k * W (q - k) else (fun q => cs U W q (min k (q + 1))) q) = tab 0 n (fun q => cs U W q (min (k + 1) (q + 1))) := hstep _ fun q hq => by
        show (if k ≤ q ∧ q < k + (n - k) then cs U W q (min k (q + 1)) + U k * W (q - k) else cs U W q (min k (q + 1))) = _
        by_cases z : k ≤ q
        · rw [if_pos (by omega), show min k (q + 1) = k by omega, show min (k + 1) (q + 1) = k + 1 by omega]
          rfl
        · rw [if_neg (by omega), show min k (q + 1) = q + 1 by omega, show min (k + 1) (q + 1) = q + 1 by omega]
      rw [e] at e1
      rw [← ih]
      show Sim.forM _ (enumD k (fr (U k) :: (tab (k + 1) m U).map fr)) _ _ = _
      rw [enumD_c, forM_c, ← hki]
      have c' : ¬ (U k).num = 0 := fun z => cz (hz.mp z)
      have b1 : big ki = true := big_of (by omega) (by omega)
      have b2 : big ni = true := big_of (by omega) (by omega)
      have t1 : (ni - ki).toNat = n - k := by omega
      generalize fr (U k) = f1 at *
      generalize (U k).num = un at *
      generalize (tab 0 n W).map fr = ww at *
      generalize (tab (k + 1) m U).map fr = uu at *
      generalize (tab 0 n (fun q => cs U W q (min (k + 1) (q + 1)))).map fr = rr at *
      generalize (tab 0 n (fun q => cs U W q (min k (q + 1)))).map fr = r0 at *
      have st1 : inTurn g45 outB (.tup [.int ki, f1]) [x0, some (.lst ww), some (.int ni), some (.ref st.length), x4, x5, x6, x7] (st ++ [some (.lst r0)]) = .nx [x0, some (.lst ww), some (.int ni), some (.ref st.length), some (.int ki), some f1, x6, x7a] (st ++ [some (.lst rr)]) := by
        rw [← e1]
        show outB [x0, some (.lst ww), some (.int ni), some (.ref st.length), some (.int ki), some f1, x6, x7] _ = _
        unfold outB
        generalize hinb : inB = ib at *
        simp [i1, neD_int, decide_eq_false c', b1, b2, t1]
      rw [st1]
section
variable {n : Nat} {U W : Nat → Rat} {a b c : Nat} (hU : ∀ i, i < n → Bd a (U i)) (hW : ∀ i, i < n → Bd b (W i)) (hc : ∀ k m, k < n → m ≤ k + 1 → Bd c (cs U W k m)) (hb : c + (a + b) ≤ 8000) (hn : n ≤ 1000) {st : Sto}
include hU hW hc hb hn
theorem t1Loop (x2 : Option D) (k : Nat) (ki : Int) (hk : ki = (k : Nat)) (hkn : k < n) : ∀ (m j : Nat) (lo : Int) (x5 : Option D), lo = (j : Nat) → j + m = k + 1 →
    ∃ x5', Sim.forM (inTurn (gN 5) t1B) (intsL lo m) [some (.lst ((tab 0 n U).map fr)), some (.lst ((tab 0 n W).map fr)), x2, some (.int ki), some (fr (cs U W k j)), x5] st = .nx [some (.lst ((tab 0 n U).map fr)), some (.lst ((tab 0 n W).map fr)), x2, some (.int ki), some (fr (conv U W k)), x5'] st
  | 0, j, lo, x5, hlo, hj => ⟨x5, by
    rw [show conv U W k = cs U W k j by unfold conv; rw [show k + 1 = j by omega]]
    rfl⟩
  | m + 1, j, lo, x5, hlo, hj => by
    obtain ⟨x5', ih⟩ := t1Loop x2 k ki hk hkn m (j + 1) (lo + 1) (some (.int lo)) (by omega) (by omega)
    refine ⟨x5', ?_⟩
    rw [← ih, intsL_cons, forM_c]
    have e1 := ix_tab n U (i := j) hlo (by omega) st
    have e2 := ix_tab n W (i := k - j) (ii := ki - lo) (by omega) (by omega) st
    have i1 := fr0 (U j)
    have i2 := fr0 (W (k - j))
    have m1 := law_mul (hU j (by omega)) (hW (k - j) (by omega)) (by omega) st
    have a1 := law_add (hc k j hkn (by omega)) (bd_mul (hU j (by omega)) (hW (k - j) (by omega)) (by omega)) (by omega) st
    have z1 : (U j).num = 0 → cs U W k (j + 1) = cs U W k j := fun h => by
      show cs U W k j + U j * W (k - j) = _
      rw [num0.mp h]
      grind
    have z2 : (W (k - j)).num = 0 → cs U W k (j + 1) = cs U W k j := fun h => by
      show cs U W k j + U j * W (k - j) = _
      rw [num0.mp h]
      grind
    have z3 : cs U W k (j + 1) = cs U W k j + U j * W (k - j) := rfl
    have st1 : inTurn (gN 5) t1B (.int lo) [some (.lst ((tab 0 n U).map fr)), some (.lst ((tab 0 n W).map fr)), x2, some (.int ki), some (fr (cs U W k j)), x5] st = .nx [some (.lst ((tab 0 n U).map fr)), some (.lst ((tab 0 n W).map fr)), x2, some (.int ki), some (fr (cs U W k (j + 1))), some (.int lo)] st := by
      by_cases c1 : (U j).num = 0
      · rw [z1 c1]
        generalize fr (U j) = f1 at *
        generalize (U j).num = un at *
        generalize (tab 0 n U).map fr = uu at *
        generalize (tab 0 n W).map fr = ww at *
        generalize fr (cs U W k j) = f0 at *
        simp [inTurn, e1, i1, neD_int, decide_eq_true c1]
      · by_cases c2 : (W (k - j)).num = 0
        · rw [z2 c2]
          generalize fr (U j) = f1 at *
          generalize fr (W (k - j)) = f2 at *
          generalize (U j).num = un at *
          generalize (W (k - j)).num = wn at *
          generalize (tab 0 n U).map fr = uu at *
          generalize (tab 0 n W).map fr = ww at *
          generalize fr (cs U W k j) = f0 at *
          simp [inTurn, e1, e2, i1, i2, neD_int, decide_eq_false c1, decide_eq_true c2]
        · rw [z3]
          generalize fr (U j * W (k - j)) = f4 at *
          generalize fr (cs U W k j + U j * W (k - j)) = f3 at *
          generalize fr (U j) = f1 at *
          generalize fr (W (k - j)) = f2 at *
          generalize (U j).num = un at *
          generalize (W (k - j)).num = wn at *
          generalize (tab 0 n U).map fr = uu at *
          generalize (tab 0 n W).map fr = ww at *
          generalize fr (cs U W k j) = f0 at *
          simp [inTurn, e1, e2, i1, i2, neD_int, decide_eq_false c1, decide_eq_false c2, m1, a1]
    rw [st1]
theorem t2Loop : ∀ (m k : Nat) (lo : Int) (x3 x4 x5 : Option D), lo = (k : Nat) → k + m = n →
    ∃ x3' x4' x5', Sim.forM (inTurn (gN 3) t2B) (intsL lo m) [some (.lst ((tab 0 n U).map fr)), some (.lst ((tab 0 n W).map fr)), some (.ref st.length), x3, x4, x5] (st ++ [some (.lst ((tab 0 k (conv U W)).map fr))]) = .nx [some (.lst ((tab 0 n U).map fr)), some (.lst ((tab 0 n W).map fr)), some (.ref st.length), x3', x4', x5'] (st ++ [some (.lst ((tab 0 n (conv U W)).map fr))])
  | 0, k, lo, x3, x4, x5, hlo, hk => ⟨x3, x4, x5, by rw [show k = n by omega]; rfl⟩
  | m + 1, k, lo, x3, x4, x5, hlo, hk => by
    obtain ⟨x5a, e1⟩ := t1Loop hU hW hc hb hn (st := st ++ [some (.lst ((tab 0 k (conv U W)).map fr))]) (some (.ref st.length)) k lo hlo (by omega) (k + 1) 0 0 x5 rfl (by omega)
    obtain ⟨x3', x4', x5', ih⟩ := t2Loop m (k + 1) (lo + 1) (some (.int lo)) (some (fr (conv U W k))) x5a (by omega) (by omega)
    refine ⟨x3', x4', x5', ?_⟩
    have e2 : (tab 0 (k + 1) (conv U W)).map fr = (tab 0 k (conv U W)).map fr ++ [fr (conv U W k)] := by
      rw [tab_snoc, List.map_append, Nat.zero_add]
      rfl
    rw [e2] at ih
    rw [← ih, intsL_cons, forM_c]
    have ap := app_last (st := st) (L := (tab 0 k (conv U W)).map fr) (d := fr (conv U W k)) (by rw [List.length_map, tab_len]; omega)
    have it := isT_last (st := st) (L := (tab 0 k (conv U W)).map fr)
    have b1 : big (lo + 1) = true := big_of (by omega) (by omega)
    have t1 : (lo + 1).toNat = k + 1 := by omega
    have hz : (D.tup [.int 0, .int 1]) = fr (cs U W k 0) := rfl
    have st1 : inTurn (gN 3) t2B (.int lo) [some (.lst ((tab 0 n U).map fr)), some (.lst ((tab 0 n W).map fr)), some (.ref st.length), x3, x4, x5] (st ++ [some (.lst ((tab 0 k (conv U W)).map fr))]) = .nx [some (.lst ((tab 0 n U).map fr)), some (.lst ((tab 0 n W).map fr)), some (.ref st.length), some (.int lo), some (fr (conv U W k)), x5a] (st ++ [some (.lst ((tab 0 k (conv U W)).map fr ++ [fr (conv U W k)]))]) := by
      show t2B [some (.lst ((tab 0 n U).map fr)), some (.lst ((tab 0 n W).map fr)), some (.ref st.length), some (.int lo), x4, x5] _ = _
      unfold t2B
      generalize hib : t1B = ib at *
      generalize fr (cs U W k 0) = f0 at *
      generalize fr (conv U W k) = f1 at *
      generalize (tab 0 n U).map fr = uu at *
      generalize (tab 0 n W).map fr = ww at *
      generalize (tab 0 k (conv U W)).map fr = kk at *
      simp [two_le_line, hz, b1, t1, e1, it, ap]
    rw [st1]
theorem law_times (hs : NoR st) : f__law_times [.lst ((tab 0 n U).map fr), .lst ((tab 0 n W).map fr)] st = .ok (.lst ((tab 0 n (conv U W)).map fr)) st := by
  obtain ⟨ni, hni⟩ : ∃ ni : Int, ni = (n : Nat) := ⟨_, rfl⟩
  obtain ⟨x3, x4, x5, e⟩ := t2Loop hU hW hc hb hn (st := st) n 0 0 none none none rfl (by omega)
  have l1 : ∀ s, lenD [.lst ((tab 0 n U).map fr)] s = .ok (.int ni) s := fun s => by
    show Res.ok (D.int (((tab 0 n U).map fr).length : Nat)) s = _
    rw [List.length_map, tab_len, hni]
  have b2 : big ni = true := big_of (by omega) (by omega)
  have t1 : ni.toNat = n := by omega
  unfold f__law_times
  refine def_cut (j := [none]) rfl ?_ (nr_lst' (nrs_fr _)) hs
  show m__law_times [some (.lst ((tab 0 n U).map fr)), some (.lst ((tab 0 n W).map fr)), none, none, none, none] st = _
  have ml0 : mkL true [] st = .ok (.ref st.length) (st ++ [some (.lst [])]) := by
    exact (mkL_ref [] st).trans (if_pos (Nat.zero_le _))
  rw [times_eq]
  refine (seq_nx (σ1 := [some (.lst ((tab 0 n U).map fr)), some (.lst ((tab 0 n W).map fr)), some (.ref st.length), none, none, none]) (st1 := st ++ [some (.lst [])]) (by simp [ml0, -mkL_ref])).trans ?_
  refine (seq_nx (σ1 := [some (.lst ((tab 0 n U).map fr)), some (.lst ((tab 0 n W).map fr)), some (.ref st.length), x3, x4, x5]) (st1 := st ++ [some (.lst ((tab 0 n (conv U W)).map fr))]) ?_).trans ?_
  · have hi := range_len (σ := [some (.lst ((tab 0 n U).map fr)), some (.lst ((tab 0 n W).map fr)), some (.ref st.length), none, none, none]) (st := st ++ [some (.lst [])]) rfl (l1 _) b2 t1
    have e0 : (tab 0 0 (conv U W)).map fr = [] := rfl
    rw [e0] at e
    exact (sFor_of hi).trans e
  · show (sRet (eFrz (eVar 2))) _ _ = _
    unfold sRet
    rw [frz_lst rfl]
    rfl
end
section
variable {n : Nat} {U W : Nat → Rat} {a b c : Nat} (hU : ∀ i, i < n → Bd a (U i)) (hW : ∀ i, i < n → Bd b (W i)) (hc : ∀ k m, k < n → m ≤ k + 1 → Bd c (cs U W k m)) (hb : c + (a + b) ≤ 8000) (hn : n ≤ 1000) {st : Sto} (hs : NoR st)
include hU hW hc hb hn hs
theorem multiplied : f_multiplied [.lst ((tab 0 n U).map fr), .lst ((tab 0 n W).map fr)] st = .ok (.lst ((tab 0 n (conv U W)).map fr)) st := by
  obtain ⟨ni, hni⟩ : ∃ ni : Int, ni = (n : Nat) := ⟨_, rfl⟩
  obtain ⟨x4, x5, x7, e⟩ := outLoop hU hW hc hb hn st (some (.lst ((tab 0 n U).map fr))) none ni hni n 0 none none none (by omega)
  have e0 : tab 0 n (fun q => cs U W q (min 0 (q + 1))) = tab 0 n (fun _ => 0) := tab_congr _ _ _ _ fun q _ _ => by rw [show min 0 (q + 1) = 0 by omega]; rfl
  rw [e0, ← zeros n 0 0] at e
  have l1 : lenD [.lst ((tab 0 n U).map fr)] st = .ok (.int ni) st := by
    show Res.ok (D.int (((tab 0 n U).map fr).length : Nat)) st = _
    rw [List.length_map, tab_len, hni]
  have b2 : big ni = true := big_of (by omega) (by omega)
  have t1 : ni.toNat = n := by omega
  unfold f_multiplied
  refine def_cut (j := [none]) rfl ?_ (nr_lst' (nrs_fr _)) hs
  show m_multiplied [some (.lst ((tab 0 n U).map fr)), some (.lst ((tab 0 n W).map fr)), none, none, none, none, none, none] st = _
  unfold m_multiplied
  generalize hu : (tab 0 n U).map fr = uu at *
  generalize (tab 0 n W).map fr = ww at *
  refine (seq_nx (σ1 := [some (.lst uu), some (.lst ww), some (.int ni), none, none, none, none, none]) (st1 := st) (by simp [l1])).trans ?_
  have cc := comp_const (own := [6]) (g := gN 6) (c := .tup [.int 0, .int 1]) (σ := [some (.lst uu), some (.lst ww), some (.int ni), none, none, none, none, none]) (fun d => ⟨_, rfl⟩) st (intsL 0 n)
  have ml : mkL true ((intsL 0 n).map fun _ => D.tup [.int 0, .int 1]) st = .ok (.ref st.length) (st ++ [some (.lst ((intsL 0 n).map fun _ => D.tup [.int 0, .int 1]))]) := by
    unfold mkL
    rw [if_pos (by rw [List.length_map, intsL_len]; exact Nat.le_trans hn (by decide))]
  refine (seq_nx (σ1 := [some (.lst uu), some (.lst ww), some (.int ni), some (.ref st.length), none, none, none, none]) (st1 := st ++ [some (.lst ((intsL 0 n).map fun _ => D.tup [.int 0, .int 1]))]) (by
    generalize hz : ((intsL 0 n).map fun _ => D.tup [.int 0, .int 1]) = zz at *
    simp [eComp, b2, t1, cc, ml, -mkL_ref])).trans ?_
  refine (seq_nx (σ1 := [some (.lst uu), some (.lst ww), some (.int ni), some (.ref st.length), x4, x5, none, x7]) (st1 := st ++ [some (.lst ((tab 0 n (fun q => cs U W q (q + 1))).map fr))]) ?_).trans ?_
  · rw [← e]
    rfl
  · show (sRet (eFrz (eVar 3))) _ _ = _
    unfold sRet
    rw [frz_lst rfl]
    rfl
end
/-! ### numbers over powers of 6 -/
def s6 (e : Nat) : Rat := ((6 ^ e : Nat) : Rat)
theorem s6_add (e f : Nat) : s6 (e + f) = s6 e * s6 f := by
  unfold s6
  rw [Nat.pow_add, Rat.natCast_mul]
def Qn (e B : Nat) (x : Rat) : Prop := ∃ N : Int, x * s6 e = (N : Rat) ∧ N.natAbs ≤ B
theorem Qn.mono {e B C : Nat} {x : Rat} (h : Qn e B x) (hB : B ≤ C) : Qn e C x := by
  obtain ⟨N, h1, h2⟩ := h
  exact ⟨N, h1, Nat.le_trans h2 hB⟩
theorem Qn.zero (e B : Nat) : Qn e B 0 := ⟨0, by rw [Rat.zero_mul]; rfl, Nat.zero_le _⟩
theorem Qn.add {e B C : Nat} {x y : Rat} (h : Qn e B x) (k : Qn e C y) : Qn e (B + C) (x + y) := by
  obtain ⟨N, h1, h2⟩ := h
  obtain ⟨M, k1, k2⟩ := k
  refine ⟨N + M, ?_, by omega⟩
  rw [Rat.add_mul, h1, k1, Rat.intCast_add]
theorem Qn.mul {e f B C : Nat} {x y : Rat} (h : Qn e B x) (k : Qn f C y) : Qn (e + f) (B * C) (x * y) := by
  obtain ⟨N, h1, h2⟩ := h
  obtain ⟨M, k1, k2⟩ := k
  refine ⟨N * M, ?_, by rw [Int.natAbs_mul]; exact Nat.mul_le_mul h2 k2⟩
  rw [s6_add, Rat.intCast_mul, ← h1, ← k1]
  grind
theorem Qn.bd {e B n : Nat} {x : Rat} (h : Qn e B x) (h1 : 6 ^ e < 2 ^ n) (h2 : B < 2 ^ n) : Bd n x := by
  obtain ⟨N, hN, hB⟩ := h
  have key : x.num * ((6 ^ e : Nat) : Int) = N * (x.den : Int) := by
    have e1 := rat_eq x
    have hd := den_ne x
    have e2 : (x.num : Rat) * s6 e = (N : Rat) * (x.den : Rat) := by
      rw [← hN]
      have e3 : x * (x.den : Rat) = (x.num : Rat) := by
        have := Rat.div_mul_cancel (a := (x.num : Rat)) hd
        rw [e1] at this
        exact this
      rw [← e3]
      grind
    unfold s6 at e2
    have e4 : ((x.num * ((6 ^ e : Nat) : Int) : Int) : Rat) = ((N * (x.den : Int) : Int) : Rat) := by
      rw [Rat.intCast_mul, Rat.intCast_mul]
      exact e2
    exact Rat.intCast_inj.mp e4
  have kn : x.num.natAbs * 6 ^ e = N.natAbs * x.den := by
    have := congrArg Int.natAbs key
    rw [Int.natAbs_mul, Int.natAbs_mul, Int.natAbs_natCast, Int.natAbs_natCast] at this
    exact this
  have hco : Nat.Coprime x.den x.num.natAbs := x.reduced.symm
  have hdvd : x.den ∣ 6 ^ e := hco.dvd_of_dvd_mul_left ⟨N.natAbs, by rw [kn, Nat.mul_comm]⟩
  have h6 : 0 < 6 ^ e := Nat.pow_pos (by decide)
  have hle : x.den ≤ 6 ^ e := Nat.le_of_dvd h6 hdvd
  have hnum : x.num.natAbs ≤ N.natAbs := by
    have : x.num.natAbs * 6 ^ e ≤ N.natAbs * 6 ^ e := by rw [kn]; exact Nat.mul_le_mul_left _ hle
    exact Nat.le_of_mul_le_mul_right this h6
  exact ⟨by omega, by omega⟩
theorem cs_qn {U W : Nat → Rat} {e f B C : Nat} {n : Nat} (hU : ∀ i, i < n → Qn e B (U i)) (hW : ∀ i, i < n → Qn f C (W i)) {k : Nat} (hk : k < n) : ∀ m, m ≤ k + 1 → Qn (e + f) (m * (B * C)) (cs U W k m)
  | 0, _ => by rw [Nat.zero_mul]; exact Qn.zero _ _
  | m + 1, hm => by
    have ih := cs_qn hU hW hk m (by omega)
    have q := ih.add ((hU m (by omega)).mul (hW (k - m) (by omega)))
    rw [Nat.succ_mul]
    exact q
/-- the powers of a row -/
def pw (U : Nat → Rat) : Nat → Nat → Rat
  | 0 => U
  | k + 1 => conv (pw U k) U
theorem pw_step {n k : Nat} (hn : n ≤ 7) : n * (2 ^ (206 * (k + 1)) * 2 ^ 203) ≤ 2 ^ (206 * (k + 1 + 1)) := by
  have e : 206 * (k + 1 + 1) = 206 * (k + 1) + 203 + 3 := by omega
  rw [e, Nat.pow_add, Nat.pow_add]
  have : (2 : Nat) ^ 3 = 8 := rfl
  rw [this, Nat.mul_comm]
  exact Nat.mul_le_mul_left _ (by omega)
theorem pw_qn {U : Nat → Rat} {n : Nat} (hU : ∀ i, i < n → Qn 1 (2 ^ 203) (U i)) (hn : n ≤ 7) : ∀ k i, i < n → Qn (k + 1) (2 ^ (206 * (k + 1))) (pw U k i)
  | 0, i, h => (hU i h).mono (Nat.pow_le_pow_right (by decide) (by decide))
  | k + 1, i, h => by
    have q := cs_qn (pw_qn hU hn k) hU h (i + 1) (Nat.le_refl _)
    exact q.mono (Nat.le_trans (Nat.mul_le_mul_right _ (show i + 1 ≤ n by omega)) (pw_step hn))
theorem six_le {e n : Nat} (h : 3 * e < n) : 6 ^ e < 2 ^ n := by
  have h1 : 6 ^ e ≤ 8 ^ e := Nat.pow_le_pow_left (by decide) e
  have h2 : 8 ^ e = 2 ^ (3 * e) := by
    rw [Nat.pow_mul]
  have h3 : 2 ^ (3 * e) < 2 ^ n := Nat.pow_lt_pow_right (by decide) h
  omega
section
variable {U : Nat → Rat} {n : Nat} (hU : ∀ i, i < n → Qn 1 (2 ^ 203) (U i)) (hn : n ≤ 7) {k : Nat} (hk : k ≤ 5)
include hU hn hk
theorem pw_bd : ∀ i, i < n → Bd 1300 (pw U k i) := fun i h => (pw_qn hU hn k i h).bd (six_le (by omega)) (Nat.pow_lt_pow_right (by decide) (by omega))
theorem cs_bd6 (hk4 : k ≤ 4) : ∀ j m, j < n → m ≤ j + 1 → Bd 1300 (cs (pw U k) U j m) := fun j m hj hm =>
  ((cs_qn (pw_qn hU hn k) hU hj m hm).mono (Nat.le_trans (Nat.mul_le_mul_right _ (show m ≤ n by omega)) (pw_step hn))).bd (six_le (by omega)) (Nat.pow_lt_pow_right (by decide) (by omega))
theorem u_bd : ∀ i, i < n → Bd 1300 (U i) := fun i h => (hU i h).bd (six_le (by decide)) (Nat.pow_lt_pow_right (by decide) (by decide))
theorem mult6 (hk4 : k ≤ 4) {st : Sto} (hs : NoR st) : f_multiplied [.lst ((tab 0 n (pw U k)).map fr), .lst ((tab 0 n U).map fr)] st = .ok (.lst ((tab 0 n (pw U (k + 1))).map fr)) st :=
  multiplied (pw_bd hU hn hk) (u_bd hU hn hk) (cs_bd6 hU hn hk hk4) (by decide) (by omega) hs
theorem times6 (hk4 : k ≤ 4) {st : Sto} (hs : NoR st) : f__law_times [.lst ((tab 0 n (pw U k)).map fr), .lst ((tab 0 n U).map fr)] st = .ok (.lst ((tab 0 n (pw U (k + 1))).map fr)) st :=
  law_times (pw_bd hU hn hk) (u_bd hU hn hk) (cs_bd6 hU hn hk hk4) (by decide) (by omega) hs
end
end K10

set_option exponentiation.threshold 20000
set_option linter.all false
set_option maxRecDepth 100000
set_option maxHeartbeats 4000000
namespace K10
open PySem PySem.Spec PyProof.Rows L2 Sim
open PySem.PyData (strOk)
/-! ### rows of rows -/
def fl (r : List Rat) : D := .lst (r.map fr)
def rowsG (k : Nat) : Nat → (Nat → List Rat) → List (List Rat)
  | 0, _ => []
  | m + 1, f => f k :: rowsG (k + 1) m f
theorem rowsG_len : ∀ (m k : Nat) (f : Nat → List Rat), (rowsG k m f).length = m
  | 0, _, _ => rfl
  | m + 1, k, f => by show (rowsG (k + 1) m f).length + 1 = m + 1; rw [rowsG_len m (k + 1) f]
theorem rowsG_get : ∀ (m k : Nat) (f : Nat → List Rat) (i : Nat), i < m → (rowsG k m f)[i]? = some (f (k + i))
  | 0, _, _, _, h => absurd h (Nat.not_lt_zero _)
  | m + 1, k, f, 0, _ => rfl
  | m + 1, k, f, i + 1, h => by
    show (rowsG (k + 1) m f)[i]? = _
    rw [rowsG_get m (k + 1) f i (by omega), show k + 1 + i = k + (i + 1) by omega]
theorem rowsG_snoc : ∀ (m k : Nat) (f : Nat → List Rat), rowsG k (m + 1) f = rowsG k m f ++ [f (k + m)]
  | 0, k, f => rfl
  | m + 1, k, f => by
    show f k :: rowsG (k + 1) (m + 1) f = (f k :: rowsG (k + 1) m f) ++ _
    rw [rowsG_snoc m (k + 1) f]
    show _ = f k :: (rowsG (k + 1) m f ++ [f (k + (m + 1))])
    rw [show k + 1 + m = k + (m + 1) by omega]
theorem rowsG_map : ∀ (m k : Nat) (f : Nat → List Rat) (g : List Rat → List Rat), (rowsG k m f).map g = rowsG k m (fun i => g (f i))
  | 0, _, _, _ => rfl
  | m + 1, k, f, g => by show g (f k) :: (rowsG (k + 1) m f).map g = _; rw [rowsG_map m (k + 1) f g]; rfl
theorem rowsG_mem {m k : Nat} {f : Nat → List Rat} {r : List Rat} (h : r ∈ rowsG k m f) : ∃ i, i < m ∧ r = f (k + i) := by
  obtain ⟨i, hi, e⟩ := List.mem_iff_getElem?.mp h |> fun ⟨i, hi⟩ => (⟨i, by
    obtain ⟨z, _⟩ := List.getElem?_eq_some_iff.mp hi
    rw [rowsG_len] at z
    exact z, hi⟩ : ∃ i, i < m ∧ (rowsG k m f)[i]? = some r)
  rw [rowsG_get m k f i hi] at e
  exact ⟨i, hi, (Option.some.inj e).symm⟩
theorem nr_fl (r : List Rat) : NR (fl r) := nr_lst' (nrs_fr r)
theorem nrs_fl (R : List (List Rat)) : NRs (R.map fl) := .of fun d hd => by
  obtain ⟨r, _, rfl⟩ := List.mem_map.mp hd
  exact nr_fl r
theorem pl_fl (r : List Rat) (h : r.length ≤ 1000) : Pl 2 (fl r) := pl_frs r h
theorem pl_fls (R : List (List Rat)) (h : R.length ≤ 1000) (h2 : ∀ r ∈ R, r.length ≤ 1000) : Pl 3 (.lst (R.map fl)) := plL (by rw [List.length_map]; exact h) fun d hd => by
  obtain ⟨r, hr, rfl⟩ := List.mem_map.mp hd
  exact pl_fl r (h2 r hr)
theorem mkR_ (R : List (List Rat)) (h : R.length ≤ 1000) (st : Sto) : mkL false (R.map fl) st = .ok (.lst (R.map fl)) st := mkF _ (by rw [List.length_map]; omega) st
theorem flen (r : List Rat) {n : Int} (h : n = (r.length : Nat)) (st : Sto) : lenD [fl r] st = .ok (.int n) st := li_len r h st
theorem Rlen (R : List (List Rat)) {n : Int} (h : n = (R.length : Nat)) (st : Sto) : lenD [.lst (R.map fl)] st = .ok (.int n) st := by
  show Res.ok (D.int ((R.map fl).length : Nat)) st = _
  rw [List.length_map, h]
theorem Rix {R : List (List Rat)} {r : List Rat} {i : Nat} {ii : Int} (hi : ii = (i : Nat)) (h : R[i]? = some r) (st : Sto) : ixD (.lst (R.map fl)) (.int ii) st = .ok (fl r) st :=
  ix_lst (R.map fl) st i ii (fl r) (by rw [List.getElem?_map, h]; rfl) hi
theorem fix {r : List Rat} {x : Rat} {i : Nat} {ii : Int} (hi : ii = (i : Nat)) (h : r[i]? = some x) (st : Sto) : ixD (fl r) (.int ii) st = .ok (fr x) st := ix_fr r hi h st _ (.inl rfl)
theorem ix_neg {n : Nat} {ds : List D} {d : D} {st : Sto} (h : st[n]? = some (some (.lst (ds ++ [d])))) : ixD (.ref n) (.int (-1)) st = .ok d st := by
  have e2 : itemsOf (.ref n) st = some (ds ++ [d]) := by unfold itemsOf; simp only [h]
  have e : ixD (.ref n) (.int (-1)) st = (match itemsOf (.ref n) st with | some ds => (match atI ds (-1) with | some d => Res.ok d st | none => .bad) | none => .bad) := rfl
  have e3 : atI (ds ++ [d]) (-1) = some d := by
    unfold atI ixN
    rw [if_neg (by omega), if_pos (by simp; omega)]
    simp
    have : ((-1 : Int) + ((ds.length : Int) + 1)).toNat = ds.length := by omega
    first
      | (rw [this]; simp)
      | simp
  rw [e, e2]
  show (match atI (ds ++ [d]) (-1) with | some d => Res.ok d st | none => .bad) = _
  rw [e3]
/-- comprehensions over rows -/
theorem compR {f : D → Sto → Res (Option D)} {g : List Rat → List Rat} {st : Sto} : ∀ {R : List (List Rat)}, (∀ r ∈ R, f (fl r) st = .ok (some (fl (g r))) st) → compM f (R.map fl) st = .ok ((R.map g).map fl) st
  | [], _ => rfl
  | r :: R, h => by
    rw [List.map_cons]
    unfold compM
    rw [h r (List.mem_cons_self ..)]
    simp only [compR fun q hq => h q (List.mem_cons_of_mem _ hq)]
    rfl
/-! ### the powers -/
def QL (xs : List Rat) : Prop := ∀ x ∈ xs, Qn 1 (2 ^ 203) x
/-- the numbers of a row that begins with 0 -/
def un (xs : List Rat) : Nat → Rat := fun i => (0 :: xs).getD i 0
theorem un_tab (xs : List Rat) : 0 :: xs = tab 0 (xs.length + 1) (un xs) := to_tab (0 :: xs)
theorem un_q {xs : List Rat} (h : QL xs) : ∀ i, i < xs.length + 1 → Qn 1 (2 ^ 203) (un xs i) := fun i hi => by
  unfold un
  cases i with
  | zero => exact Qn.zero _ _
  | succ i =>
    have : (0 :: xs).getD (i + 1) 0 = xs[i] := by simp [show i < xs.length by omega]
    rw [this]
    exact h _ (List.getElem_mem _)
/-- the k-th power, from 0 on -/
def pr (xs : List Rat) (k : Nat) : List Rat := tab 0 (xs.length + 1) (pw (un xs) k)
theorem pr_len (xs : List Rat) (k : Nat) : (pr xs k).length = xs.length + 1 := tab_len ..
theorem pr_0 (xs : List Rat) : pr xs 0 = 0 :: xs := (un_tab xs).symm
/-- the table of a step -/
def tb (xs : List Rat) : List (List Rat) := rowsG 0 xs.length fun k => (pr xs k).drop 1
theorem tb_len (xs : List Rat) : (tb xs).length = xs.length := rowsG_len ..
theorem tb_mem {xs r : List Rat} (h : r ∈ tb xs) : r.length = xs.length := by
  obtain ⟨i, _, rfl⟩ := rowsG_mem h
  rw [List.length_drop, pr_len]
  omega
section
variable {xs : List Rat} (hq : QL xs) (h2 : 1 ≤ xs.length) (h6 : xs.length ≤ 6)
include hq h6
theorem pr_mult {k : Nat} (hk : k ≤ 4) {st : Sto} (hs : NoR st) : f_multiplied [fl (pr xs k), fl (0 :: xs)] st = .ok (fl (pr xs (k + 1))) st := by
  have := mult6 (un_q hq) (by omega) (k := k) (by omega) hk hs
  rw [← un_tab] at this
  exact this
theorem pr_times {k : Nat} (hk : k ≤ 4) {st : Sto} (hs : NoR st) : f__law_times [fl (pr xs k), fl (0 :: xs)] st = .ok (fl (pr xs (k + 1))) st := by
  have := times6 (un_q hq) (by omega) (k := k) (by omega) hk hs
  rw [← un_tab] at this
  exact this
theorem pr_bd {k : Nat} (hk : k ≤ 5) : ∀ x ∈ pr xs k, Bd 1300 x := fun x hx => by
  obtain ⟨i, hi, rfl⟩ := tab_mem hx
  rw [Nat.zero_add]
  exact pw_bd (un_q hq) (by omega) hk i hi
theorem tb_bd : ∀ r ∈ tb xs, BdL 1300 r := fun r hr x hx => by
  obtain ⟨i, hi, rfl⟩ := rowsG_mem hr
  rw [Nat.zero_add] at hx
  exact pr_bd hq h6 (k := i) (by omega) x (List.mem_of_mem_drop hx)
abbrev pwB : Sm := (sExpr (eBM "list" (mutD fAppend) (eVar 1) (aCons (eCall f_multiplied (aCons (eBin ixD (eVar 1) (eUn negI (eC (.int 1)))) (aCons (eVar 0) aNil)) []) aNil)))
omit hq h6 in
theorem pw_turn {u l m d : D} {st s1 : Sto} {z : Option D} (i : ixD l (.int (-1)) st = .ok m st) (e : f_multiplied [m, u] st = .ok d st) (t : Sim.isT "list" l st = true) (a : mutD fAppend l [d] st = .ok .non s1) (x : D) :
    inTurn (gN 2) pwB x [some u, some l, z] st = .nx [some u, some l, some x] s1 := by
  simp [inTurn, i, e, t, a]
theorem pwLoop {st : Sto} (hs : NoR st) : ∀ (l : List D) (k : Nat) (z : Option D), k + l.length ≤ 5 → ∃ z', Sim.forM (inTurn (gN 2) pwB) l [some (fl (0 :: xs)), some (.ref st.length), z] (st ++ [some (.lst ((rowsG 0 (k + 1) (pr xs)).map fl))]) = .nx [some (fl (0 :: xs)), some (.ref st.length), z'] (st ++ [some (.lst ((rowsG 0 (k + 1 + l.length) (pr xs)).map fl))])
  | [], k, z, _ => ⟨z, rfl⟩
  | d :: l, k, z, h => by
    have hlen : (d :: l).length = l.length + 1 := rfl
    obtain ⟨z', ih⟩ := pwLoop hs l (k + 1) (some d) (by omega)
    refine ⟨z', ?_⟩
    have hs2 : NoR (st ++ [some (.lst ((rowsG 0 (k + 1) (pr xs)).map fl))]) := hs.app (nr_lst (nrs_fl _))
    have e := pr_mult hq h6 (k := k) (by omega) hs2
    have sn : (rowsG 0 (k + 1) (pr xs)).map fl = (rowsG 0 k (pr xs)).map fl ++ [fl (pr xs k)] := by
      rw [rowsG_snoc, List.map_append, Nat.zero_add]
      rfl
    have sn2 : (rowsG 0 (k + 1 + 1) (pr xs)).map fl = (rowsG 0 (k + 1) (pr xs)).map fl ++ [fl (pr xs (k + 1))] := by
      rw [rowsG_snoc, List.map_append, Nat.zero_add]
      rfl
    have i : ixD (.ref st.length) (.int (-1)) (st ++ [some (.lst ((rowsG 0 (k + 1) (pr xs)).map fl))]) = .ok (fl (pr xs k)) (st ++ [some (.lst ((rowsG 0 (k + 1) (pr xs)).map fl))]) := ix_neg (by rw [last_get, sn])
    have a := app_last (st := st) (L := (rowsG 0 (k + 1) (pr xs)).map fl) (d := fl (pr xs (k + 1))) (by rw [List.length_map, rowsG_len]; omega)
    rw [← sn2] at a
    have t := pw_turn (z := z) i e isT_last a d
    rw [forM_c, t]
    show Sim.forM _ l _ _ = _
    rw [ih, show k + 1 + 1 + l.length = k + 1 + (d :: l).length by omega]
omit hq h6 in
theorem pw_range {u : D} {n : Int} {m : Nat} {σ : Sl} {st : Sto} (h0 : σ[0]? = some (some u)) (l : lenD [u] st = .ok (.int n) st) (b : big (n - 2) = true) (t : (n - 2).toNat = m) : iRange1 (aCons (eBin subI (eCB lenD (aCons (eVar 0) aNil)) (eC (.int 2))) aNil) σ st = .ok (intsL 0 m) st := by
  simp [h0, l, b, t]
omit hq h6 in
theorem pw_first {u v l : D} {st s1 : Sto} (e : listD false [u] st = .ok v st) (m : mkL true [v] st = .ok l s1) : (sSet 1 (eLst true (aCons (eCB (listD false) (aCons (eVar 0) aNil)) aNil))) [some u, none, none] st = .nx [some u, some l, none] s1 := by
  simp [-mkL_ref, e, m]
include h2 in
theorem powers_of {st : Sto} (hs : NoR st) : f_powers_of [fl (0 :: xs)] st = .ok (.lst ((rowsG 0 xs.length (pr xs)).map fl)) st := by
  obtain ⟨n, hn⟩ : ∃ n : Int, n = ((0 :: xs).length : Nat) := ⟨_, rfl⟩
  have hl1 : (0 :: xs).length = xs.length + 1 := rfl
  obtain ⟨z', e⟩ := pwLoop hq h6 hs (intsL 0 (xs.length - 1)) 0 none (by rw [intsL_len]; omega)
  rw [intsL_len, show 0 + 1 + (xs.length - 1) = xs.length by omega] at e
  have f0 : (rowsG 0 (0 + 1) (pr xs)).map fl = [fl (0 :: xs)] := by
    show [fl (pr xs 0)] = _
    rw [pr_0]
  rw [f0] at e
  have m : mkL true [fl (0 :: xs)] st = .ok (.ref st.length) (st ++ [some (.lst [fl (0 :: xs)])]) := (mkL_ref _ _).trans (if_pos (by show 1 ≤ line; decide))
  unfold f_powers_of
  refine def_cut (j := [none]) rfl ?_ (nr_lst' (nrs_fl _)) hs
  show m_powers_of [some (fl (0 :: xs)), none, none] st = _
  refine (seq_nx (pw_first (li_list (0 :: xs) (by omega) st) m)).trans ?_
  refine (seq_nx ((sFor_of (pw_range rfl (flen _ hn _) (big_of (by omega) (by omega)) (m := xs.length - 1) (by omega))).trans e)).trans ?_
  show (sRet (eFrz (eVar 1))) _ _ = _
  unfold sRet
  rw [frz_lst rfl]
  rfl
end
end K10

set_option exponentiation.threshold 20000
set_option linter.all false
set_option maxRecDepth 100000
set_option maxHeartbeats 4000000
namespace K10
open PySem PySem.Spec PyProof.Rows L2 Sim
open PySem.PyData (strOk)
/-! ### tables -/
def tabF (R : List (List Rat)) : List (Str × D) := [("_lines", .lst (R.map fl)), ("order", .int (R.length : Nat))]
def tabV (R : List (List Rat)) : D := .ins "Table" (tabF R)
theorem nr_tabV (R : List (List Rat)) : NR (tabV R) := fun n => by
  show D.undF n (tabF R) = true
  have h1 := nrs_fl R n
  unfold tabF
  simp only [D.undF, D.und, h1, Bool.and_true, Bool.true_and]
/-- lines of one length -/
def Sqr (R : List (List Rat)) : Prop := ∀ r ∈ R, r.length = R.length
theorem line_m {d n o : D} {st : Sto} (i : isiD (isB2 "list" "tuple" clsL) d st = .ok (.bl true) st) (l : lenD [d] st = .ok n st) (ne : neD n n st = .ok (.bl false) st) (e : f_first_no_fraction [d] st = .ok o st) (q : isN o .non st = .ok (.bl true) st) : f__is_line [d, n] st = .ok (.bl true) st := by
  unfold f__is_line
  refine def_rt rfl ?_ (Nat.le_refl _)
  show m__is_line [some d, some n] st = _
  unfold m__is_line
  simp [i, l, ne, e, q]
theorem is_line (r : List Rat) {n : Int} (h : n = (r.length : Nat)) (st : Sto) : f__is_line [fl r, .int n] st = .ok (.bl true) st := by
  obtain ⟨bs, h1, h2⟩ := its_fr r
  have e := firstno h1 st _ (.inl rfl)
  rw [h2] at e
  have ne := neD_int n n st
  rw [decide_eq_true rfl] at ne
  exact line_m rfl (flen r h st) ne e rfl
abbrev tlB : Sm := (sIf (Sim.tNot (tOf (eCall f__is_line (aCons (eVar 3) (aCons (eCB lenD (aCons (eVar 1) aNil)) aNil)) []))) (sRaise "InvalidTable" tp_InvalidTable 1 (aCons (eVar 2) aNil)) sNil)
abbrev g23 : Gm := (gT 2 (gsCons (gN 2) (gsCons (gN 3) gsNil)))
theorem tl_turn {s d r : D} {k : Nat} {n : Int} {x2 x3 : Option D} {st : Sto} (l : lenD [d] st = .ok (.int n) st) (e : f__is_line [r, .int n] st = .ok (.bl true) st) : inTurn g23 tlB (.tup [.int (k : Nat), r]) [some s, some d, x2, x3] st = .nx [some s, some d, some (.int (k : Nat)), some r] st := by
  simp [inTurn, l, e]
theorem tlLoop {s d : D} {n : Int} {st : Sto} (l : lenD [d] st = .ok (.int n) st) : ∀ (R : List (List Rat)) (k : Nat) (x2 x3 : Option D), (∀ r ∈ R, n = (r.length : Nat)) → ∃ x2' x3', Sim.forM (inTurn g23 tlB) (enumD k (R.map fl)) [some s, some d, x2, x3] st = .nx [some s, some d, x2', x3'] st
  | [], k, x2, x3, _ => ⟨x2, x3, rfl⟩
  | r :: R, k, x2, x3, h => by
    obtain ⟨a, b, ih⟩ := tlLoop l R (k + 1) (some (.int (k : Nat))) (some (fl r)) fun q hq => h q (List.mem_cons_of_mem _ hq)
    refine ⟨a, b, ?_⟩
    rw [List.map_cons, enumD_c, forM_c, tl_turn l (is_line r (h r (List.mem_cons_self ..)) st)]
    exact ih
theorem fldT {m : Em} {f : Str} {v : D} {σ : Sl} {fs gs : List (Str × D)} {st : Sto} (h0 : σ[0]? = some (some (.ref st.length))) (hm : m σ (st ++ [some (.ins "Table" fs)]) = .ok v (st ++ [some (.ins "Table" fs)])) (hl : fs.length < 1000) (hg : putFD f v fs = gs) : sFldM ["Table"] f m (eVar 0) σ (st ++ [some (.ins "Table" fs)]) = .nx σ (st ++ [some (.ins "Table" gs)]) := by
  have s := setF_last (cs := ["Table"]) (C := "Table") (f := f) (v := v) (fs := fs) (st := st) (by simp) hl
  rw [hg] at s
  simp [hm, h0, s]
theorem ti_1 {s d : D} {st : Sto} {x2 x3 : Option D} {b : Sm} (i : isiD (isB2 "list" "tuple" clsL) d st = .ok (.bl true) st) : (sIf (Sim.tNot (tOf (eUn (isiD (isB2 "list" "tuple" clsL)) (eVar 1)))) b sNil) [some s, some d, x2, x3] st = .nx [some s, some d, x2, x3] st := by
  simp [i]
theorem ti_2 {s d n : D} {st : Sto} {x2 x3 : Option D} {b : Sm} (l : lenD [d] st = .ok n st) (e : f_is_order [n] st = .ok (.bl true) st) : (sIf (Sim.tNot (tOf (eCall f_is_order (aCons (eCB lenD (aCons (eVar 1) aNil)) aNil) []))) b sNil) [some s, some d, x2, x3] st = .nx [some s, some d, x2, x3] st := by
  simp [l, e]
theorem enum_of {ds : List D} {σ : Sl} {i : Nat} {st : Sto} (h : σ[i]? = some (some (.lst ds))) : iEnum2M (aCons (eVar i) aNil) σ st = .ok (enumD 0 ds) st := by
  simp [h]
theorem lists_f {j : Nat} {own : List Nat} {σ : Sl} {r : List Rat} {st : Sto} (hj : (wipeD σ own).length > j) (hl : r.length ≤ 1000) : compF own (gN j) tTrue (eCB (listD false) (aCons (eVar j) aNil)) σ (fl r) st = .ok (some (fl r)) st := by
  have g : ((wipeD σ own).set j (some (fl r)))[j]? = some (some (fl r)) := List.getElem?_set_self hj
  have e := li_list r hl st
  have e : listD false [fl r] st = .ok (fl r) st := e
  have c : compF own (gN j) tTrue (eCB (listD false) (aCons (eVar j) aNil)) σ (fl r) st = (match (eCB (listD false) (aCons (eVar j) aNil)) ((wipeD σ own).set j (some (fl r))) st with
    | .ok y st3 => .ok (some y) st3
    | _ => .bad) := rfl
  rw [c]
  generalize fl r = f at *
  simp [g, e]
theorem compId {f : D → Sto → Res (Option D)} {st : Sto} : ∀ {R : List (List Rat)}, (∀ r ∈ R, f (fl r) st = .ok (some (fl r)) st) → compM f (R.map fl) st = .ok (R.map fl) st := fun {R} h => by
  have := compR (g := fun r => r) h
  rw [List.map_id'] at this
  exact this
theorem table_init {R : List (List Rat)} (h2 : 2 ≤ R.length) (h24 : R.length ≤ 24) (hq : Sqr R) (st : Sto) : f_Table___init__ [.ref st.length, .lst (R.map fl)] (st ++ [some (.ins "Table" [])]) = .ok .non (st ++ [some (.ins "Table" (tabF R))]) := by
  obtain ⟨n, hn⟩ : ∃ n : Int, n = (R.length : Nat) := ⟨_, rfl⟩
  have io := isord n (st ++ [some (.ins "Table" [])])
  rw [decide_eq_true (show 2 ≤ n ∧ n ≤ 24 by omega)] at io
  obtain ⟨x2, x3, lp⟩ := tlLoop (s := .ref st.length) (d := .lst (R.map fl)) (st := st ++ [some (.ins "Table" [])]) (Rlen R hn _) R 0 none none fun r hr => by rw [hn, hq r hr]
  have cc := compId (st := st ++ [some (.ins "Table" [])]) (R := R) (f := compF [3] (gN 3) tTrue (eCB (listD false) (aCons (eVar 3) aNil)) [some (.ref st.length), some (.lst (R.map fl)), x2, x3]) fun r hr => lists_f (by simp [wipeD]) (by rw [hq r hr]; omega)
  have cm := comp_of (iv (i := 1) (σ := [some (.ref st.length), some (.lst (R.map fl)), x2, x3]) (ds := R.map fl) rfl) cc (mkR_ R (by omega) _)
  have hF : tabF R = ([("_lines", .lst (R.map fl)), ("order", .int n)] : List (Str × D)) := by rw [hn]; rfl
  rw [hF]
  unfold f_Table___init__
  refine def_nx (σ := [some (.ref st.length), some (.lst (R.map fl)), x2, x3]) rfl ?_ (by simp)
  show m_Table___init__ [some (.ref st.length), some (.lst (R.map fl)), none, none] _ = _
  refine (seq_nx (ti_1 rfl)).trans ?_
  refine (seq_nx (ti_2 (Rlen R hn _) io)).trans ?_
  refine (seq_nx ((sFor_of (enum_of rfl)).trans lp)).trans ?_
  refine (seq_nx (fldT (gs := [("_lines", .lst (R.map fl))]) rfl cm (by simp) rfl)).trans ?_
  exact fldT rfl (cb1 rfl (Rlen R hn _)) (by simp) rfl
abbrev mkT (ma : Am) : Em := eFrz (eMkP "Table" f_Table___init__ 1 0 false ma aNil)
theorem mk_tb {R : List (List Rat)} {st : Sto} {ma : Am} {σ : Sl} (e : ma σ st = .ok [.lst (R.map fl)] st) (h2 : 2 ≤ R.length) (h24 : R.length ≤ 24) (hq : Sqr R) (hs : NoR st) : mkT ma σ st = .ok (tabV R) st := by
  refine frz_last (st := st) ?_ (nr_tabV R) hs
  rw [emk1 e, table_init h2 h24 hq]
  rfl
section
variable (R : List (List Rat)) (st : Sto)
theorem b_lines : attD "_lines" (tabV R) st = .ok (.lst (R.map fl)) st := rfl
theorem b_ord {n : Int} (h : n = (R.length : Nat)) : attD "order" (tabV R) st = .ok (.int n) st := by subst h; rfl
theorem isc_tb : isC "Table" (tabV R) st = true := by
  show decide (("Table" : Str) = "Table") = true
  decide +kernel
theorem io_tb (m : Str) (h : m = "lines" ∨ m = "number" ∨ m = "power_line") : insOf "Table" m (tabV R) st = true := by
  rcases h with rfl | rfl | rfl <;> rfl
theorem isP_tb : isiD (isP clsL "Table") (tabV R) st = .ok (.bl true) st := by
  show (match isP clsL "Table" (.c "Table") with | some b => Res.ok (D.bl b) st | none => .bad) = _
  have : isP clsL "Table" (.c "Table") = some true := by
    show (if ("Table" : Str) ∈ clsL then some (decide (("Table" : Str) = "Table")) else none) = some true
    rw [if_pos (by decide +kernel), decide_eq_true rfl]
  rw [this]
end
theorem ivA {f : Str} {r : D} {ds : List D} {σ : Sl} {st : Sto} (h0 : σ[0]? = some (some r)) (a : attD f r st = .ok (.lst ds) st) : iVal (eUn (attD f) (eVar 0)) σ st = .ok ds st := by
  have e : itemsOf (.lst ds) st = some ds := rfl
  simp [h0, a, e]
theorem t_lines {R : List (List Rat)} (h : R.length ≤ 900) (hq : ∀ r ∈ R, r.length ≤ 1000) (st : Sto) : f_Table_lines [tabV R] st = .ok (.lst (R.map fl)) st := by
  have cc := compId (st := st) (R := R) (f := compF [1] (gN 1) tTrue (eCB (listD false) (aCons (eVar 1) aNil)) [some (tabV R), none]) fun r hr => lists_f (by simp [wipeD]) (hq r hr)
  have cm := comp_of (ivA (σ := [some (tabV R), none]) rfl (b_lines R st)) cc (mkR_ R (by omega) st)
  unfold f_Table_lines
  refine def_rt rfl ?_ (Nat.le_refl _)
  exact ret_of cm
theorem pl_m {r L x : D} {li n : Int} {st : Sto} (hw : f_is_whole [.int li] st = .ok (.bl true) st) (c1 : 1 ≤ li) (c2 : li ≤ n) (ho : attD "order" r st = .ok (.int n) st) (ha : attD "_lines" r st = .ok L st) (i : ixD L (.int (li - 1)) st = .ok x st) (e : listD false [x] st = .ok x st) : m_Table_power_line [some r, some (.int li)] st = .rt x st := by
  unfold m_Table_power_line
  simp [hw, c1, c2, ho, ha, i, e]
theorem t_line {R : List (List Rat)} {r : List Rat} (h : R[0]? = some r) (hl : r.length ≤ 1000) (st : Sto) : f_Table_power_line [tabV R, .int 1] st = .ok (fl r) st := by
  have h1 : 0 < R.length := by
    obtain ⟨z, _⟩ := List.getElem?_eq_some_iff.mp h
    exact z
  unfold f_Table_power_line
  exact def_rt rfl (pl_m (isw 1 st) (by decide) (n := (R.length : Nat)) (by omega) (b_ord R st rfl) (b_lines R st) (Rix (i := 0) rfl h st) (li_list r hl st)) (Nat.le_refl _)
abbrev tnB : Sm := (sIf (tOr (Sim.tNot (tOf (eCall f_is_whole (aCons (eVar 3) aNil) []))) (Sim.tNot (tOf (eChain leI leI (eC (.int 1)) (eVar 3) (eUn (attD "order") (eVar 0)))))) (sRaise "InvalidPlace" tp_InvalidPlace 1 (aCons (eVar 3) aNil)) sNil)
theorem tn_turn {r x1 x2 : D} {x3 : Option D} {i n : Int} {st : Sto} (hw : f_is_whole [.int i] st = .ok (.bl true) st) (c1 : 1 ≤ i) (c2 : i ≤ n) (ho : attD "order" r st = .ok (.int n) st) : inTurn (gN 3) tnB (.int i) [some r, some x1, some x2, x3] st = .nx [some r, some x1, some x2, some (.int i)] st := by
  simp [inTurn, hw, c1, c2, ho]
theorem tn_fin {r L x y : D} {x3 : Option D} {li pi : Int} {st : Sto} (ha : attD "_lines" r st = .ok L st) (i1 : ixD L (.int (li - 1)) st = .ok x st) (i2 : ixD x (.int (pi - 1)) st = .ok y st) : (sRet (eBin ixD (eBin ixD (eUn (attD "_lines") (eVar 0)) (eBin subI (eVar 1) (eC (.int 1)))) (eBin subI (eVar 2) (eC (.int 1))))) [some r, some (.int li), some (.int pi), x3] st = .rt y st := by
  simp [ha, i1, i2]
theorem iv2 {x1 x2 : D} {σ : Sl} {st : Sto} (h1 : σ[1]? = some (some x1)) (h2 : σ[2]? = some (some x2)) : iVal (eTup (aCons (eVar 1) (aCons (eVar 2) aNil))) σ st = .ok [x1, x2] st := by
  have e : itemsOf (.tup [x1, x2]) st = some [x1, x2] := rfl
  simp [h1, h2, two_le_line, e]
theorem t_number {R : List (List Rat)} {r : List Rat} {x : Rat} {i j : Nat} {li pi : Int} (hl : li = ((i + 1 : Nat) : Int)) (hp : pi = ((j + 1 : Nat) : Int)) (h1 : R[i]? = some r) (h2 : r[j]? = some x) (hn : r.length = R.length) (st : Sto) : f_Table_number [tabV R, .int li, .int pi] st = .ok (fr x) st := by
  have a1 : i < R.length := by
    obtain ⟨z, _⟩ := List.getElem?_eq_some_iff.mp h1
    exact z
  have a2 : j < r.length := by
    obtain ⟨z, _⟩ := List.getElem?_eq_some_iff.mp h2
    exact z
  unfold f_Table_number
  refine def_rt rfl ?_ (Nat.le_refl _)
  show m_Table_number [some (tabV R), some (.int li), some (.int pi), none] st = _
  refine (seq_nx (σ1 := [some (tabV R), some (.int li), some (.int pi), some (.int pi)]) (st1 := st) ((sFor_of (iv2 rfl rfl)).trans ?_)).trans ?_
  · rw [forM_c, tn_turn (isw li st) (by omega) (n := (R.length : Nat)) (by omega) (b_ord R st rfl)]
    show Sim.forM _ [.int pi] _ _ = _
    rw [forM_c, tn_turn (isw pi st) (by omega) (n := (R.length : Nat)) (by omega) (b_ord R st rfl)]
    rfl
  · exact tn_fin (b_lines R st) (Rix (i := i) (by omega) h1 st) (fix (i := j) (by omega) h2 st)
/-! ### the table of a step -/
theorem drops_f {j : Nat} {own : List Nat} {σ : Sl} {r : List Rat} {st : Sto} (hj : (wipeD σ own).length > j) (hl : r.length ≤ 900) : compF own (gN j) tTrue (eSl false (eVar j) (pSome (eC (.int 1))) pNone) σ (fl r) st = .ok (some (fl (r.drop 1))) st := by
  have g : ((wipeD σ own).set j (some (fl r)))[j]? = some (some (fl r)) := List.getElem?_set_self hj
  have s := sl_from (ds := r.map fr) (k := 1) (ki := 1) rfl (by rw [List.length_map]; omega) st
  rw [← List.map_drop] at s
  have s : slD false (fl r) (some 1) none st = .ok (fl (r.drop 1)) st := s
  have c : compF own (gN j) tTrue (eSl false (eVar j) (pSome (eC (.int 1))) pNone) σ (fl r) st = (match (eSl false (eVar j) (pSome (eC (.int 1))) pNone) ((wipeD σ own).set j (some (fl r))) st with
    | .ok y st3 => .ok (some y) st3
    | _ => .bad) := rfl
  rw [c]
  generalize fl r = f at *
  simp [eSl, g, s]
theorem powers_it {u d l : D} {ds : List D} {σ : Sl} {st : Sto} (h0 : σ[0]? = some (some u)) (io : insOf "Step" "numbers" u st = true) (e : f_Step_numbers [u] st = .ok d st) (c : catL false (.lst [.tup [.int 0, .int 1]]) d st = .ok l st) (p : f_powers_of [l] st = .ok (.lst ds) st) : iVal (eCall f_powers_of (aCons (eBin (catL false) (eLst false (aCons (eC (.tup [.int 0, .int 1])) aNil)) (eMeth "Step" "numbers" f_Step_numbers (eVar 0) aNil)) aNil) []) σ st = .ok ds st := by
  have k1 : ∀ z, mkL false [.tup [.int 0, .int 1]] z = .ok (.lst [.tup [.int 0, .int 1]]) z := fun z => mkF _ (by simp) z
  have e2 : itemsOf (.lst ds) st = some ds := rfl
  simp [-mkL_val, h0, eMeth, io, e, k1, c, p, e2]
theorem tb_eq (xs : List Rat) : (rowsG 0 xs.length (pr xs)).map (List.drop 1) = tb xs := rowsG_map ..
theorem sqr_tb (xs : List Rat) : Sqr (tb xs) := fun r hr => by rw [tb_len]; exact tb_mem hr
theorem cat0 (xs : List Rat) (h : xs.length ≤ 900) (st : Sto) : catL false (.lst [.tup [.int 0, .int 1]]) (fl xs) st = .ok (fl (0 :: xs)) st := by
  show catL false (.lst [.tup [.int 0, .int 1]]) (.lst (xs.map fr)) st = _
  rw [catE]
  exact mkE (0 :: xs) (by simp; omega) st
theorem table_of {xs : List Rat} (hq : QL xs) (h2 : 2 ≤ xs.length) (h6 : xs.length ≤ 6) {st : Sto} (hs : NoR st) : f_table_of [stepV xs] st = .ok (tabV (tb xs)) st := by
  have it := powers_it (σ := [some (stepV xs), none]) rfl (io_st xs st "numbers" (.inl rfl)) (s_numbers xs st (by omega)) (cat0 xs (by omega) st) (powers_of hq (by omega) h6 hs)
  have cc := compR (g := List.drop 1) (st := st) (R := rowsG 0 xs.length (pr xs)) (f := compF [1] (gN 1) tTrue (eSl false (eVar 1) (pSome (eC (.int 1))) pNone) [some (stepV xs), none]) fun r hr => by
    obtain ⟨i, _, rfl⟩ := rowsG_mem hr
    exact drops_f (by simp [wipeD]) (by rw [pr_len]; omega)
  rw [tb_eq] at cc
  have cm := comp_of it cc (mkR_ (tb xs) (by rw [tb_len]; omega) st)
  unfold f_table_of
  refine def_rt rfl ?_ (Nat.le_refl _)
  show m_table_of [some (stepV xs), none] st = _
  exact ret_of (mk_tb (one_arg cm) (by rw [tb_len]; omega) (by rw [tb_len]; omega) (sqr_tb xs) hs)
/-! the law's own table -/
abbrev ltB : Sm := (sSeq (sSet 3 (eCall f__law_times (aCons (eVar 3) (aCons (eVar 1) aNil)) [])) (sExpr (eBM "list" (mutD fAppend) (eVar 4) (aCons (eSl false (eVar 3) (pSome (eC (.int 1))) pNone) aNil))))
theorem lt_turn {a u h l m d x : D} {z : Option D} {st s1 : Sto} (e : f__law_times [h, u] st = .ok m st) (t : Sim.isT "list" l st = true) (s : slD false m (some 1) none st = .ok d st) (ap : mutD fAppend l [d] st = .ok .non s1) : inTurn (gN 2) ltB x [some a, some u, z, some h, some l] st = .nx [some a, some u, some x, some m, some l] s1 := by
  simp [inTurn, e, t, eSl, s, ap]
theorem ltLoop {xs : List Rat} (hq : QL xs) (h6 : xs.length ≤ 6) {a : D} {st : Sto} (hs : NoR st) : ∀ (l : List D) (k : Nat) (z : Option D), k + l.length ≤ 5 → ∃ z', Sim.forM (inTurn (gN 2) ltB) l [some a, some (fl (0 :: xs)), z, some (fl (pr xs k)), some (.ref st.length)] (st ++ [some (.lst ((rowsG 0 (k + 1) fun k => (pr xs k).drop 1).map fl))]) = .nx [some a, some (fl (0 :: xs)), z', some (fl (pr xs (k + l.length))), some (.ref st.length)] (st ++ [some (.lst ((rowsG 0 (k + 1 + l.length) fun k => (pr xs k).drop 1).map fl))])
  | [], k, z, _ => ⟨z, rfl⟩
  | d :: l, k, z, h => by
    have hlen : (d :: l).length = l.length + 1 := rfl
    obtain ⟨z', ih⟩ := ltLoop hq h6 hs l (k + 1) (some d) (by omega)
    refine ⟨z', ?_⟩
    have hs2 : NoR (st ++ [some (.lst ((rowsG 0 (k + 1) fun k => (pr xs k).drop 1).map fl))]) := hs.app (nr_lst (nrs_fl _))
    have e := pr_times hq h6 (k := k) (by omega) hs2
    have s := sl_from (ds := (pr xs (k + 1)).map fr) (k := 1) (ki := 1) rfl (by rw [List.length_map, pr_len]; omega) (st ++ [some (.lst ((rowsG 0 (k + 1) fun k => (pr xs k).drop 1).map fl))])
    rw [← List.map_drop] at s
    have sn2 : (rowsG 0 (k + 1 + 1) fun k => (pr xs k).drop 1).map fl = (rowsG 0 (k + 1) fun k => (pr xs k).drop 1).map fl ++ [fl ((pr xs (k + 1)).drop 1)] := by
      rw [rowsG_snoc, List.map_append, Nat.zero_add]
      rfl
    have ap := app_last (st := st) (L := (rowsG 0 (k + 1) fun k => (pr xs k).drop 1).map fl) (d := fl ((pr xs (k + 1)).drop 1)) (by rw [List.length_map, rowsG_len]; omega)
    rw [← sn2] at ap
    have t := lt_turn (a := a) (z := z) (x := d) e isT_last s ap
    rw [forM_c, t]
    show Sim.forM _ l _ _ = _
    rw [ih, show k + 1 + 1 + l.length = k + 1 + (d :: l).length by omega, show k + 1 + l.length = k + (d :: l).length by omega]
theorem lt_1 {a l : D} {st : Sto} (c : catL false (.lst [.tup [.int 0, .int 1]]) a st = .ok l st) : (sSet 1 (eBin (catL false) (eLst false (aCons (eTup (aCons (eC (.int 0)) (aCons (eC (.int 1)) aNil))) aNil)) (eVar 0))) [some a, none, none, none, none] st = .nx [some a, some l, none, none, none] st := by
  have k1 : ∀ z, mkL false [.tup [.int 0, .int 1]] z = .ok (.lst [.tup [.int 0, .int 1]]) z := fun z => mkF _ (by simp) z
  simp [-mkL_val, two_le_line, k1, c]
theorem lt_2 {a u b l : D} {st s1 : Sto} (e : listD false [a] st = .ok b st) (m : mkL true [b] st = .ok l s1) : (sPar 3 4 (eVar 1) (eLst true (aCons (eCB (listD false) (aCons (eVar 0) aNil)) aNil))) [some a, some u, none, none, none] st = .nx [some a, some u, none, some u, some l] s1 := by
  simp [-mkL_ref, e, m]
theorem lt_range {u : D} {n : Int} {m : Nat} {σ : Sl} {st : Sto} (h0 : σ[0]? = some (some u)) (l : lenD [u] st = .ok (.int n) st) (b : big (n - 1) = true) (t : (n - 1).toNat = m) : iRange1 (aCons (eBin subI (eCB lenD (aCons (eVar 0) aNil)) (eC (.int 1))) aNil) σ st = .ok (intsL 0 m) st := by
  simp [h0, l, b, t]
theorem law_table {xs : List Rat} (hq : QL xs) (h2 : 1 ≤ xs.length) (h6 : xs.length ≤ 6) {st : Sto} (hs : NoR st) : f__law_table [fl xs] st = .ok (.lst ((tb xs).map fl)) st := by
  obtain ⟨n, hn⟩ : ∃ n : Int, n = (xs.length : Nat) := ⟨_, rfl⟩
  obtain ⟨z', e⟩ := ltLoop hq h6 (a := fl xs) hs (intsL 0 (xs.length - 1)) 0 none (by rw [intsL_len]; omega)
  rw [intsL_len, show 0 + 1 + (xs.length - 1) = xs.length by omega, pr_0] at e
  have f0 : (rowsG 0 (0 + 1) fun k => (pr xs k).drop 1).map fl = [fl xs] := by
    show [fl ((pr xs 0).drop 1)] = _
    rw [pr_0]
    rfl
  rw [f0] at e
  have m : mkL true [fl xs] st = .ok (.ref st.length) (st ++ [some (.lst [fl xs])]) := (mkL_ref _ _).trans (if_pos (by show 1 ≤ line; decide))
  unfold f__law_table
  refine def_cut (j := [none]) rfl ?_ (nr_lst' (nrs_fl _)) hs
  show m__law_table [some (fl xs), none, none, none, none] st = _
  refine (seq_nx (lt_1 (cat0 xs (by omega) st))).trans ?_
  refine (seq_nx (lt_2 (li_list xs (by omega) st) m)).trans ?_
  refine (seq_nx ((sFor_of (lt_range rfl (flen _ hn _) (big_of (by omega) (by omega)) (m := xs.length - 1) (by omega))).trans e)).trans ?_
  show (sRet (eFrz (eVar 4))) _ _ = _
  unfold sRet
  rw [frz_lst rfl]
  rfl
end K10

set_option exponentiation.threshold 20000
set_option linter.all false
set_option maxRecDepth 100000
set_option maxHeartbeats 4000000
namespace K10
open PySem PySem.Spec PyProof.Rows L2 Sim
open PySem.PyData (strOk)
/-! ### tables are equal to themselves -/
def pyl (r : List Rat) : PyData := .list (r.map pf)
theorem pys_fl : ∀ R : List (List Rat), D.pys (R.map fl) = some (R.map pyl)
  | [] => rfl
  | r :: R => by
    have ih := pys_fl R
    have e : D.py (fl r) = some (pyl r) := by
      show (D.pys (r.map fr)).map PyData.list = _
      rw [pys_fr]
      rfl
    show (match D.py (fl r), D.pys (R.map fl) with
      | some a, some b => some (a :: b)
      | _, _ => none) = _
    rw [ih, e]
    rfl
theorem lay_fl : ∀ R : List (List Rat), PyData.canLayAll0 (R.map pyl) = true
  | [] => rfl
  | r :: R => by
    have h : PyData.canLay0 (pyl r) = true := lay_fr r
    show (PyData.canLay0 (pyl r) && PyData.canLayAll0 (R.map pyl)) = true
    rw [h, lay_fl R]
    rfl
theorem depth_fl : ∀ R : List (List Rat), PyData.depthAll (R.map pyl) ≤ 2
  | [] => Nat.zero_le _
  | r :: R => by
    show max (PyData.depth (pyl r)) (PyData.depthAll (R.map pyl)) ≤ 2
    have h1 := depth_fl R
    have h2 := depth_fr r
    have e : PyData.depth (pyl r) = PyData.depthAll (r.map pf) + 1 := rfl
    omega
theorem eqv_fl : ∀ R : List (List Rat), PyData.eqvAll (R.map pyl) (R.map pyl) = true
  | [] => rfl
  | r :: R => by
    have h := eqv_all r r
    rw [decide_eq_true rfl] at h
    show (PyData.eqvAll (r.map pf) (r.map pf) && PyData.eqvAll (R.map pyl) (R.map pyl)) = true
    rw [h, eqv_fl R]
    rfl
theorem eqD_fl (R : List (List Rat)) (st : Sto) : eqD (.lst (R.map fl)) (.lst (R.map fl)) st = .ok (.bl true) st := by
  have e1 : Sim.pyOf (.lst (R.map fl)) st = some (.list (R.map pyl)) := by
    show (D.pys (R.map fl)).map PyData.list = _
    rw [pys_fl]
    rfl
  have sh : SeqAt.shaped (.list (R.map pyl)) = true := by
    unfold SeqAt.shaped
    have h1 : (PyData.list (R.map pyl)).canLay0 = true := lay_fl R
    have h2 : (PyData.list (R.map pyl)).depth ≤ 64 := by
      show PyData.depthAll (R.map pyl) + 1 ≤ 64
      have := depth_fl R
      omega
    rw [h1, decide_eq_true h2]
    rfl
  unfold eqD
  rw [e1]
  show (if (SeqAt.shaped (.list (R.map pyl)) && SeqAt.shaped (.list (R.map pyl))) = true then Res.ok (D.bl (PyData.eqvAll (R.map pyl) (R.map pyl))) st else .bad) = _
  rw [sh, eqv_fl]
  rfl
theorem teq_m {r a : D} {st : Sto} (i : isiD (isP clsL "Table") r st = .ok (.bl true) st) (ha : attD "_lines" r st = .ok a st) (e : eqD a a st = .ok (.bl true) st) : m_Table___eq__ [some r, some r] st = .rt (.bl true) st := by
  unfold m_Table___eq__
  simp [i, ha, e]
theorem t_eq (R : List (List Rat)) (st : Sto) : eqO "Table" clsL f_Table___eq__ (tabV R) (tabV R) st = .ok (.bl true) st := by
  unfold eqO
  rw [if_pos ⟨isc_tb R st, okT_ins (by decide +kernel) st⟩]
  unfold f_Table___eq__
  exact def_rt rfl (teq_m (isP_tb R st) (b_lines R st) (eqD_fl R st)) (Nat.le_refl _)
/-! ### where two lists of rows differ -/
theorem fdf_spec : ∀ {r t : List Rat} {j : Nat}, fdf r t = some j → (∃ x y, r[j]? = some x ∧ t[j]? = some y ∧ ¬ x = y) ∧ ∀ i, i < j → ∃ x, r[i]? = some x ∧ t[i]? = some x
  | [], _, _, h => by cases ‹List Rat› <;> cases h
  | _ :: _, [], _, h => by cases h
  | x :: r, y :: t, j, h => by
    rw [fdf_c] at h
    by_cases c : x = y
    · rw [if_pos c] at h
      obtain ⟨k, hk, rfl⟩ := Option.map_eq_some_iff.mp h
      obtain ⟨h1, h2⟩ := fdf_spec hk
      refine ⟨by simpa using h1, fun i hi => ?_⟩
      cases i with
      | zero => exact ⟨x, rfl, by rw [c]; rfl⟩
      | succ i => simpa using h2 i (by omega)
    · rw [if_neg c] at h
      cases h
      exact ⟨⟨x, y, rfl, rfl, c⟩, fun i hi => absurd hi (Nat.not_lt_zero _)⟩
def fdR : List (List Rat) → List (List Rat) → Option (Nat × Nat)
  | r :: R, s :: S => match fdf r s with
    | some j => some (0, j)
    | none => (fdR R S).map fun p => (p.1 + 1, p.2)
  | _, _ => none
theorem fdR_c (r s : List Rat) (R S : List (List Rat)) : fdR (r :: R) (s :: S) = match fdf r s with
    | some j => some (0, j)
    | none => (fdR R S).map fun p => (p.1 + 1, p.2) := rfl
theorem fdR_spec : ∀ {R S : List (List Rat)} {i j : Nat}, fdR R S = some (i, j) → (∃ r s, R[i]? = some r ∧ S[i]? = some s ∧ fdf r s = some j) ∧ ∀ k, k < i → ∃ r s, R[k]? = some r ∧ S[k]? = some s ∧ fdf r s = none
  | [], _, _, _, h => by cases ‹List (List Rat)› <;> cases h
  | _ :: _, [], _, _, h => by cases h
  | r :: R, s :: S, i, j, h => by
    rw [fdR_c] at h
    cases e : fdf r s with
    | some k =>
      rw [e] at h
      cases h
      exact ⟨⟨r, s, rfl, rfl, e⟩, fun k hk => absurd hk (Nat.not_lt_zero _)⟩
    | none =>
      rw [e] at h
      obtain ⟨p, hp, hpe⟩ := Option.map_eq_some_iff.mp h
      obtain ⟨p1, p2⟩ := p
      cases hpe
      obtain ⟨h1, h2⟩ := fdR_spec hp
      refine ⟨by simpa using h1, fun k hk => ?_⟩
      cases k with
      | zero => exact ⟨r, s, rfl, rfl, e⟩
      | succ k => simpa using h2 k (by omega)
theorem fdR_none : ∀ {R S : List (List Rat)}, R.length = S.length → fdR R S = none → ∀ k, k < R.length → ∃ r s, R[k]? = some r ∧ S[k]? = some s ∧ fdf r s = none
  | [], _, _, _, k, h => absurd h (Nat.not_lt_zero _)
  | _ :: _, [], hl, _, _, _ => by simp at hl
  | r :: R, s :: S, hl, h, k, hk => by
    rw [fdR_c] at h
    cases e : fdf r s with
    | some j => rw [e] at h; cases h
    | none =>
      rw [e] at h
      cases k with
      | zero => exact ⟨r, s, rfl, rfl, e⟩
      | succ k => simpa using fdR_none (by simpa using hl) (Option.map_eq_none_iff.mp h) k (by simpa using hk)
theorem fdR_eq {R S : List (List Rat)} (hl : R.length = S.length) (hq : ∀ (k : Nat) (r s : List Rat), R[k]? = some r → S[k]? = some s → r.length = s.length) (h : fdR R S = none) : R = S := by
  apply List.ext_getElem? 
  intro k
  by_cases hk : k < R.length
  · obtain ⟨r, s, h1, h2, h3⟩ := fdR_none hl h k hk
    rw [h1, h2, fdf_none (hq k r s h1 h2) h3]
  · rw [List.getElem?_eq_none (by omega), List.getElem?_eq_none (by omega)]
/-! ### loops that search -/
theorem forM_hit {f : D → Sl → Sto → RS} {st : Sto} {Inv : Sl → Prop} {Good : RS → Prop} (he : ∀ r, Good r → (∃ d s, r = .rt d s) ∨ ∃ x σ s, r = .exc x σ s) : ∀ (items : List D) (k : Nat) (σ : Sl), Inv σ → (∀ i d σ, i < k → items[i]? = some d → Inv σ → ∃ σ', f d σ st = .nx σ' st ∧ Inv σ') → (∃ d, items[k]? = some d ∧ ∀ σ, Inv σ → Good (f d σ st)) → Good (Sim.forM f items σ st)
  | [], k, σ, _, _, h => by
    obtain ⟨d, h, _⟩ := h
    simp at h
  | d :: l, 0, σ, hi, _, h => by
    obtain ⟨d', h1, h2⟩ := h
    have : d' = d := by simpa using h1.symm
    subst this
    have g := h2 σ hi
    rw [forM_c]
    rcases he _ g with ⟨v, s, e⟩ | ⟨x, σ', s, e⟩
    · rw [e] at g ⊢
      exact g
    · rw [e] at g ⊢
      exact g
  | d :: l, k + 1, σ, hi, hs, h => by
    obtain ⟨σ', e, hi'⟩ := hs 0 d σ (by omega) rfl hi
    rw [forM_c, e]
    exact forM_hit he l k σ' hi' (fun i d σ hik hd => hs (i + 1) d σ (by omega) (by simpa using hd)) (by simpa using h)
theorem forM_all {f : D → Sl → Sto → RS} {st : Sto} {Inv : Sl → Prop} : ∀ (items : List D) (σ : Sl), Inv σ → (∀ (i : Nat) (d : D) (σ : Sl), items[i]? = some d → Inv σ → ∃ σ', f d σ st = .nx σ' st ∧ Inv σ') → ∃ σ', Sim.forM f items σ st = .nx σ' st ∧ Inv σ'
  | [], σ, hi, _ => ⟨σ, rfl, hi⟩
  | d :: l, σ, hi, hs => by
    obtain ⟨σ', e, hi'⟩ := hs 0 d σ rfl hi
    rw [forM_c, e]
    exact forM_all l σ' hi' fun i d σ hd => hs (i + 1) d σ (by simpa using hd)
theorem ints_at {lo : Int} {n i : Nat} (h : i < n) : (intsL lo n)[i]? = some (.int (lo + (i : Nat))) := by
  unfold intsL
  rw [List.getElem?_map, List.getElem?_range h]
  rfl
theorem ints_of {lo : Int} {n i : Nat} {d : D} (h : (intsL lo n)[i]? = some d) : i < n ∧ d = .int (lo + (i : Nat)) := intsL_get h
/-! ### a table that is no step's -/
def xNat (a b : D) : Exn := ⟨"NotATable", [("code", .str "NotATable"), ("place", b), ("line", a)]⟩
theorem ra_nat {ma : Am} {σ : Sl} {st : Sto} {d e : D} (h : ma σ st = .ok [d, e] st) : sRaise "NotATable" tp_NotATable 2 ma σ st = .exc (xNat d e) σ st := by
  unfold sRaise
  rw [h]
  rfl
theorem fault_n {x d e : D} {st : Sto} (a : isiD (isO ancO leafs "NotATable") x st = .ok (.bl true) st) (c : attD "code" x st = .ok (.str "NotATable") st) (v : attD "line" x st = .ok d st) (w : attD "place" x st = .ok e st) : f__law_fault [x] st = .ok (.lst [.str "NotATable", d, e]) st := by
  unfold f__law_fault
  refine def_rt rfl ?_ (Nat.le_refl _)
  show m__law_fault [some x] st = _
  unfold m__law_fault
  simp [a, c, v, w, mkF, le_line]
theorem ask_nat {me : Em} {σ : Sl} {d e : D} {st j : Sto} (hs : NoR st) (h : me σ st = .exc (xNat d e) (st ++ j)) (hd : NR d) (he : NR e) : eAsk f__law_ask me σ st = .ok (.lst [.str "NotATable", d, e]) st :=
  ask_exc h (show ("NotATable" : Str) ∈ leafs by decide +kernel) (show ("CreepError" : Str) ∈ ancO "NotATable" by decide +kernel) (fault_n (isO_yes (C := "NotATable") (T := "NotATable") (by decide +kernel) (by decide +kernel) _) rfl rfl rfl) (nr3 hd he) hs
/-! ### `step_of_table` -/
abbrev spB : Sm := (sIf (tOf (eBin neD (eMeth "Table" "number" f_Table_number (eVar 0) (aCons (eVar 3) (aCons (eVar 4) aNil))) (eMeth "Table" "number" f_Table_number (eVar 2) (aCons (eVar 3) (aCons (eVar 4) aNil))))) (sRaise "NotATable" tp_NotATable 2 (aCons (eVar 3) (aCons (eVar 4) aNil))) sNil)
theorem sp_turn {t s r x y : D} {l p : Int} {z : Option D} {b : Bool} {st : Sto} (i1 : insOf "Table" "number" t st = true) (i2 : insOf "Table" "number" r st = true) (e1 : f_Table_number [t, .int l, .int p] st = .ok x st) (e2 : f_Table_number [r, .int l, .int p] st = .ok y st) (ne : neD x y st = .ok (.bl b) st) :
    inTurn (gN 4) spB (.int p) [some t, some s, some r, some (.int l), z] st = if b = true then .exc (xNat (.int l) (.int p)) [some t, some s, some r, some (.int l), some (.int p)] st else .nx [some t, some s, some r, some (.int l), some (.int p)] st := by
  have ra := ra_nat (ma := aCons (eVar 3) (aCons (eVar 4) aNil)) (σ := [some t, some s, some r, some (.int l), some (.int p)]) (st := st) (d := .int l) (e := .int p) (by simp)
  cases b <;> simp [inTurn, eMeth, i1, i2, e1, e2, ne, ra]
theorem sp_range {t : D} {n : Int} {m : Nat} {lo : Int} {σ : Sl} {st : Sto} (hb : big lo = true) (h0 : σ[0]? = some (some t)) (a : attD "order" t st = .ok (.int n) st) (b : big (n + 1) = true) (e : (n + 1 - lo).toNat = m) : iRange2 (aCons (eC (.int lo)) (aCons (eBin addD (eUn (attD "order") (eVar 0)) (eC (.int 1))) aNil)) σ st = .ok (intsL lo m) st := by
  simp [h0, a, hb, b, e]
theorem turn3 (b : Sm) (d : D) (x0 x1 x2 a c : Option D) (st : Sto) : inTurn (gN 3) b d [x0, x1, x2, a, c] st = b [x0, x1, x2, some d, c] st := rfl
theorem bigS {i : Int} (h : 0 ≤ i) (h2 : i < 1000000) : big i = true := big_of h h2
section
variable {R T : List (List Rat)} {r0 : List Rat} {n : Nat} (hR : R.length = n) (hT : T.length = n) (qR : Sqr R) (qT : Sqr T) (h2 : 2 ≤ n) (h24 : n ≤ 24) {st : Sto}
include hR hT qR qT h2 h24
/-- a line's search -/
theorem inner {i : Nat} {r t : List Rat} (hr : R[i]? = some r) (ht : T[i]? = some t) {li : Int} (hli : li = ((i + 1 : Nat) : Int)) {s : D} (z : Option D) :
    (fdf r t = none → ∃ σ', sFor (iRange2 (aCons (eC (.int 1)) (aCons (eBin addD (eUn (attD "order") (eVar 0)) (eC (.int 1))) aNil))) (gN 4) spB [some (tabV R), some s, some (tabV T), some (.int li), z] st = .nx σ' st ∧ ∃ z', σ' = [some (tabV R), some s, some (tabV T), some (.int li), z']) ∧
      ∀ j, fdf r t = some j → ∃ σ', sFor (iRange2 (aCons (eC (.int 1)) (aCons (eBin addD (eUn (attD "order") (eVar 0)) (eC (.int 1))) aNil))) (gN 4) spB [some (tabV R), some s, some (tabV T), some (.int li), z] st = .exc (xNat (.int li) (.int ((j + 1 : Nat) : Int))) σ' st := by
  have lr : r.length = n := by rw [← hR]; exact qR r (List.mem_of_getElem? hr)
  have lt : t.length = n := by rw [← hT]; exact qT t (List.mem_of_getElem? ht)
  have rg := sp_range (t := tabV R) (σ := [some (tabV R), some s, some (tabV T), some (.int li), z]) (st := st) (lo := 1) (by decide) rfl (b_ord R st (n := (n : Nat)) (by rw [hR])) (bigS (by omega) (by omega)) (m := n) (by omega)
  have turn : ∀ (p : Int) (k : Nat) (x y : Rat) (z : Option D), p = ((k + 1 : Nat) : Int) → r[k]? = some x → t[k]? = some y → inTurn (gN 4) spB (.int p) [some (tabV R), some s, some (tabV T), some (.int li), z] st = if (!decide (x = y)) = true then .exc (xNat (.int li) (.int p)) [some (tabV R), some s, some (tabV T), some (.int li), some (.int p)] st else .nx [some (tabV R), some s, some (tabV T), some (.int li), some (.int p)] st := fun p k x y z hp hx hy =>
    sp_turn (io_tb R st "number" (.inr (.inl rfl))) (io_tb T st "number" (.inr (.inl rfl))) (t_number hli hp hr hx (by rw [lr, hR]) st) (t_number hli hp ht hy (by rw [lt, hT]) st) (ne_fr x y st)
  refine ⟨fun hn => ?_, fun j hj => ?_⟩
  · have hrt := fdf_none (by rw [lr, lt]) hn
    have := forM_all (f := inTurn (gN 4) spB) (st := st) (Inv := fun σ => ∃ z', σ = [some (tabV R), some s, some (tabV T), some (.int li), z']) (intsL 1 n) [some (tabV R), some s, some (tabV T), some (.int li), z] ⟨z, rfl⟩ fun k d σ hd hi => by
      obtain ⟨z', rfl⟩ := hi
      obtain ⟨hk, rfl⟩ := ints_of hd
      have hx : r[k]? = some (r[k]'(by omega)) := List.getElem?_eq_getElem (by omega)
      have tt := turn (1 + (k : Nat)) k _ _ z' (by omega) hx (by rw [← hrt]; exact hx)
      rw [decide_eq_true rfl] at tt
      exact ⟨_, tt, _, rfl⟩
    obtain ⟨σ', e, hi⟩ := this
    exact ⟨σ', (sFor_of rg).trans e, hi⟩
  · obtain ⟨⟨x, y, hx, hy, hne⟩, hlt⟩ := fdf_spec hj
    have hjl : j < r.length := by
      obtain ⟨z, _⟩ := List.getElem?_eq_some_iff.mp hx
      exact z
    have := forM_hit (f := inTurn (gN 4) spB) (st := st) (Inv := fun σ => ∃ z', σ = [some (tabV R), some s, some (tabV T), some (.int li), z']) (Good := fun q => ∃ σ', q = .exc (xNat (.int li) (.int ((j + 1 : Nat) : Int))) σ' st) (fun q ⟨σ', e⟩ => .inr ⟨_, _, _, e⟩) (intsL 1 n) j [some (tabV R), some s, some (tabV T), some (.int li), z] ⟨z, rfl⟩ (fun k d σ hk hd hi => by
      obtain ⟨z', rfl⟩ := hi
      obtain ⟨hk', rfl⟩ := ints_of hd
      obtain ⟨w, hw1, hw2⟩ := hlt k hk
      have tt := turn (1 + (k : Nat)) k w w z' (by omega) hw1 hw2
      rw [decide_eq_true rfl] at tt
      exact ⟨_, tt, _, rfl⟩) ⟨_, ints_at (by omega), fun σ hi => by
      obtain ⟨z', rfl⟩ := hi
      have tt := turn (1 + (j : Nat)) j x y z' (by omega) hx hy
      rw [decide_eq_false hne] at tt
      have hp : (1 : Int) + (j : Nat) = ((j + 1 : Nat) : Int) := by omega
      rw [hp] at tt ⊢
      exact ⟨_, tt⟩⟩
    obtain ⟨σ', e⟩ := this
    exact ⟨σ', (sFor_of rg).trans e⟩
theorem search (h0 : R[0]? = T[0]?) {s : D} :
    (fdR R T = none → ∃ σ', sFor (iRange2 (aCons (eC (.int 2)) (aCons (eBin addD (eUn (attD "order") (eVar 0)) (eC (.int 1))) aNil))) (gN 3) (sFor (iRange2 (aCons (eC (.int 1)) (aCons (eBin addD (eUn (attD "order") (eVar 0)) (eC (.int 1))) aNil))) (gN 4) spB) [some (tabV R), some s, some (tabV T), none, none] st = .nx σ' st ∧ ∃ a b, σ' = [some (tabV R), some s, some (tabV T), a, b]) ∧
      ∀ i j, fdR R T = some (i, j) → ∃ σ', sFor (iRange2 (aCons (eC (.int 2)) (aCons (eBin addD (eUn (attD "order") (eVar 0)) (eC (.int 1))) aNil))) (gN 3) (sFor (iRange2 (aCons (eC (.int 1)) (aCons (eBin addD (eUn (attD "order") (eVar 0)) (eC (.int 1))) aNil))) (gN 4) spB) [some (tabV R), some s, some (tabV T), none, none] st = .exc (xNat (.int ((i + 1 : Nat) : Int)) (.int ((j + 1 : Nat) : Int))) σ' st := by
  have rg := sp_range (t := tabV R) (σ := [some (tabV R), some s, some (tabV T), none, none]) (st := st) (lo := 2) (by decide) rfl (b_ord R st (n := (n : Nat)) (by rw [hR])) (bigS (by omega) (by omega)) (m := n - 1) (by omega)
  have outer : ∀ (k : Nat) (a b : Option D) (r t : List Rat), R[k + 1]? = some r → T[k + 1]? = some t → inTurn (gN 3) (sFor (iRange2 (aCons (eC (.int 1)) (aCons (eBin addD (eUn (attD "order") (eVar 0)) (eC (.int 1))) aNil))) (gN 4) spB) (.int (2 + (k : Nat))) [some (tabV R), some s, some (tabV T), a, b] st = sFor (iRange2 (aCons (eC (.int 1)) (aCons (eBin addD (eUn (attD "order") (eVar 0)) (eC (.int 1))) aNil))) (gN 4) spB [some (tabV R), some s, some (tabV T), some (.int (2 + (k : Nat))), b] st := fun k a b r t _ _ => turn3 _ _ _ _ _ _ _ _
  refine ⟨fun hn => ?_, fun i j hj => ?_⟩
  · have := forM_all (f := inTurn (gN 3) (sFor (iRange2 (aCons (eC (.int 1)) (aCons (eBin addD (eUn (attD "order") (eVar 0)) (eC (.int 1))) aNil))) (gN 4) spB)) (st := st) (Inv := fun σ => ∃ a b, σ = [some (tabV R), some s, some (tabV T), a, b]) (intsL 2 (n - 1)) [some (tabV R), some s, some (tabV T), none, none] ⟨none, none, rfl⟩ fun k d σ hd hi => by
      obtain ⟨a, b, rfl⟩ := hi
      obtain ⟨hk, rfl⟩ := ints_of hd
      obtain ⟨r, t, hr, ht, hf⟩ := fdR_none (by rw [hR, hT]) hn (k + 1) (by omega)
      obtain ⟨σ', e, z', rfl⟩ := (inner hR hT qR qT h2 h24 (st := st) hr ht (li := 2 + (k : Nat)) (by omega) (s := s) b).1 hf
      rw [outer k a b r t hr ht, e]
      exact ⟨_, rfl, _, _, rfl⟩
    obtain ⟨σ', e, hi⟩ := this
    exact ⟨σ', (sFor_of rg).trans e, hi⟩
  · obtain ⟨⟨r, t, hr, ht, hf⟩, hlt⟩ := fdR_spec hj
    have hi0 : i ≠ 0 := fun hz => by
      subst hz
      rw [hr, ht] at h0
      cases h0
      rw [fdf_self] at hf
      cases hf
    obtain ⟨k, rfl⟩ : ∃ k, i = k + 1 := ⟨i - 1, by omega⟩
    have hk : k + 1 < n := by
      obtain ⟨z, _⟩ := List.getElem?_eq_some_iff.mp hr
      omega
    have := forM_hit (f := inTurn (gN 3) (sFor (iRange2 (aCons (eC (.int 1)) (aCons (eBin addD (eUn (attD "order") (eVar 0)) (eC (.int 1))) aNil))) (gN 4) spB)) (st := st) (Inv := fun σ => ∃ a b, σ = [some (tabV R), some s, some (tabV T), a, b]) (Good := fun q => ∃ σ', q = .exc (xNat (.int ((k + 1 + 1 : Nat) : Int)) (.int ((j + 1 : Nat) : Int))) σ' st) (fun q ⟨σ', e⟩ => .inr ⟨_, _, _, e⟩) (intsL 2 (n - 1)) k [some (tabV R), some s, some (tabV T), none, none] ⟨none, none, rfl⟩ (fun k' d σ hk' hd hi => by
      obtain ⟨a, b, rfl⟩ := hi
      obtain ⟨_, rfl⟩ := ints_of hd
      obtain ⟨r', t', hr', ht', hf'⟩ := hlt (k' + 1) (by omega)
      obtain ⟨σ', e, z', rfl⟩ := (inner hR hT qR qT h2 h24 (st := st) hr' ht' (li := 2 + (k' : Nat)) (by omega) (s := s) b).1 hf'
      rw [outer k' a b r' t' hr' ht', e]
      exact ⟨_, rfl, _, _, rfl⟩) ⟨_, ints_at (by omega), fun σ hi => by
      obtain ⟨a, b, rfl⟩ := hi
      have hp : (2 : Int) + (k : Nat) = ((k + 1 + 1 : Nat) : Int) := by omega
      obtain ⟨σ', e⟩ := (inner hR hT qR qT h2 h24 (st := st) hr ht (li := 2 + (k : Nat)) (by omega) (s := s) b).2 j hf
      rw [outer k a b r t hr ht, e, hp]
      exact ⟨_, rfl⟩⟩
    obtain ⟨σ', e⟩ := this
    exact ⟨σ', (sFor_of rg).trans e⟩
end
theorem line_arg {t r : D} {σ : Sl} {st : Sto} (h0 : σ[0]? = some (some t)) (io : insOf "Table" "power_line" t st = true) (e : f_Table_power_line [t, .int 1] st = .ok r st) : (aCons (eMeth "Table" "power_line" f_Table_power_line (eVar 0) (aCons (eC (.int 1)) aNil)) aNil) σ st = .ok [r] st := by
  simp [eMeth, h0, io, e]
theorem st_tb {s t : D} {a x y z : Option D} {st : Sto} (e : f_table_of [s] st = .ok t st) : (sSet 2 (eCall f_table_of (aCons (eVar 1) aNil) [])) [a, some s, x, y, z] st = .nx [a, some s, some t, y, z] st := by
  simp [e]
theorem seq_exc {a b : Sm} {σ σ' : Sl} {st st1 : Sto} {x : Exn} (h : a σ st = .exc x σ' st1) : sSeq a b σ st = .exc x σ' st1 := by
  unfold sSeq
  rw [h]
  rfl
theorem step_of {R : List (List Rat)} {r0 : List Rat} (h0 : R[0]? = some r0) (qR : Sqr R) (h2 : 2 ≤ R.length) (h6 : R.length ≤ 6) (hq : QL r0) {st : Sto} (hs : NoR st) :
    (fdR R (tb r0) = none → f_step_of_table [tabV R] st = .ok (stepV r0) st) ∧ ∀ i j, fdR R (tb r0) = some (i, j) → f_step_of_table [tabV R] st = .exc (xNat (.int ((i + 1 : Nat) : Int)) (.int ((j + 1 : Nat) : Int))) st := by
  have lr : r0.length = R.length := qR r0 (List.mem_of_getElem? h0)
  have t0 : (tb r0)[0]? = some r0 := by
    unfold tb
    rw [rowsG_get _ _ _ 0 (by omega), Nat.zero_add, pr_0]
    rfl
  have se := search (R := R) (T := tb r0) (n := R.length) rfl (by rw [tb_len, lr]) qR (sqr_tb r0) h2 (by omega) (st := st) (by rw [h0, t0]) (s := stepV r0)
  have pre : ∀ (q : RS), sSeq (sFor (iRange2 (aCons (eC (.int 2)) (aCons (eBin addD (eUn (attD "order") (eVar 0)) (eC (.int 1))) aNil))) (gN 3) (sFor (iRange2 (aCons (eC (.int 1)) (aCons (eBin addD (eUn (attD "order") (eVar 0)) (eC (.int 1))) aNil))) (gN 4) spB)) (sRet (eVar 1)) [some (tabV R), some (stepV r0), some (tabV (tb r0)), none, none] st = q → m_step_of_table [some (tabV R), none, none, none, none] st = q := fun q h => by
    refine (seq_nx (set_of (σ' := [some (tabV R), some (stepV r0), none, none, none]) (mk_st (ys := r0) (line_arg rfl (io_tb R st "power_line" (.inr (.inr rfl))) (t_line h0 (by omega) st)) (sx_lst _ _) (by omega) (by omega) hs) rfl)).trans ?_
    exact (seq_nx (st_tb (table_of hq (by omega) (by omega) hs))).trans h
  refine ⟨fun hn => ?_, fun i j hj => ?_⟩
  · obtain ⟨σ', e, a, b, rfl⟩ := se.1 hn
    unfold f_step_of_table
    exact def_rt rfl (pre _ ((seq_nx e).trans (ret_of rfl))) (Nat.le_refl _)
  · obtain ⟨σ', e⟩ := se.2 i j hj
    unfold f_step_of_table
    exact def_exc rfl (pre _ (seq_exc e)) (Nat.le_refl _)
end K10

set_option exponentiation.threshold 20000
set_option linter.all false
set_option maxRecDepth 100000
set_option maxHeartbeats 4000000
namespace K10
open PySem PySem.Spec PyProof.Rows L2 Sim
open PySem.PyData (strOk)
/-! ### `_law_step_so`, `_law_so` -/
theorem ss_m {u a : D} {n : D} {st : Sto} (i : isiD (isP clsL "Step") u st = .ok (.bl true) st) (o : attD "order" u st = .ok n st) (io : insOf "Step" "numbers" u st = true) (e : f_Step_numbers [u] st = .ok a st) (l : lenD [a] st = .ok n st) (hl : f__law_like 6 [.lst [n, a], .lst [n, a]] st = .ok (.bl true) st) : m__law_step_so [some u, some a] st = .rt (.bl true) st := by
  have k1 : ∀ z, mkL false [n, a] z = .ok (.lst [n, a]) z := fun z => mkF _ (by simp) z
  unfold m__law_step_so
  simp [-mkL_val, i, o, eMeth, io, e, l, k1, hl]
theorem step_so (xs : List Rat) (h : xs.length ≤ 900) (st : Sto) : f__law_step_so [stepV xs, fl xs] st = .ok (.bl true) st := by
  unfold f__law_step_so
  exact def_rt rfl (ss_m (isP_st xs st) (a_ord xs st rfl) (io_st xs st "numbers" (.inl rfl)) (s_numbers xs st h) (flen xs rfl st) (like (pl_two (n := 2) (.int _ _) (pl_fl xs (by omega))) 6 _ (by decide))) (Nat.le_refl _)
section
variable {M tv T t : D} {st : Sto} {x4 x5 : Option D}
theorem so1 {u : D} {me : Em} (e : me [some M, none, none, none, none, none, none] st = .ok u st) : (sSet 1 me) [some M, none, none, none, none, none, none] st = .nx [some M, some u, none, none, none, none, none] st := set_of e rfl
theorem so2 {r l : D} (i : ixD M (.int 0) st = .ok r st) (e : listD false [r] st = .ok r st) (e2 : f__law_table [r] st = .ok l st) : (sSet 2 (eCall f__law_table (aCons (eCB (listD false) (aCons (eBin ixD (eVar 0) (eC (.int 0))) aNil)) aNil) [])) [some M, some tv, none, none, none, none, none] st = .nx [some M, some tv, some l, none, none, none, none] st := by
  simp [i, e, e2]
theorem so_c {σ : Sl} (h1 : σ[1]? = some (some tv)) : (eCall f_step_of_table (aCons (eVar 1) aNil) []) σ st = f_step_of_table [tv] st := by
  simp [h1]
theorem so_k {σ : Sl} (h1 : σ[1]? = some (some tv)) : (eCallK f_step_of_table 0 1 false aNil (aCons (eVar 1) aNil)) σ st = f_step_of_table [tv] st := by
  simp [eCallK, h1, gB]
abbrev wrB : Sm := (sIf (tOf (eBin neD (eBin ixD (eBin ixD (eVar 0) (eVar 4)) (eVar 5)) (eBin ixD (eBin ixD (eVar 2) (eVar 4)) (eVar 5)))) (sSeq (sSet 6 (eLst false (aCons (eC (.str "NotATable")) (aCons (eBin addD (eVar 4) (eC (.int 1))) (aCons (eBin addD (eVar 5) (eC (.int 1))) aNil))))) (sRet (eAnd (eCall (f__law_like 6) (aCons (eVar 3) (aCons (eLst false (aCons (eVar 6) (aCons (eVar 6) aNil))) aNil)) []) (eCall (f__law_like 6) (aCons (eMeth "Table" "lines" f_Table_lines (eVar 1) aNil) (aCons (eVar 0) aNil)) [])))) sNil)
theorem wr_turn {r s x y : D} {k j : Int} {z : Option D} (e1 : ixD M (.int k) st = .ok r st) (e2 : ixD r (.int j) st = .ok x st) (e3 : ixD T (.int k) st = .ok s st) (e4 : ixD s (.int j) st = .ok y st) (ne : neD x y st = .ok (.bl false) st) : inTurn (gN 5) wrB (.int j) [some M, some tv, some T, some t, some (.int k), z, none] st = .nx [some M, some tv, some T, some t, some (.int k), some (.int j), none] st := by
  simp [inTurn, e1, e2, e3, e4, ne]
theorem wr_hit {r s x y w : D} {k j : Int} {z : Option D} (e1 : ixD M (.int k) st = .ok r st) (e2 : ixD r (.int j) st = .ok x st) (e3 : ixD T (.int k) st = .ok s st) (e4 : ixD s (.int j) st = .ok y st) (ne : neD x y st = .ok (.bl true) st) (hw : w = .lst [.str "NotATable", .int (k + 1), .int (j + 1)]) (hl : f__law_like 6 [.lst [w, w], .lst [w, w]] st = .ok (.bl true) st) (io : insOf "Table" "lines" tv st = true) (e5 : f_Table_lines [tv] st = .ok M st) (hl2 : f__law_like 6 [M, M] st = .ok (.bl true) st) :
    inTurn (gN 5) wrB (.int j) [some M, some tv, some T, some (.lst [w, w]), some (.int k), z, none] st = .rt (.bl true) st := by
  have k1 : ∀ z, mkL false [.str "NotATable", .int (k + 1), .int (j + 1)] z = .ok w z := fun z => by rw [hw]; exact mkF _ (by simp) z
  have k2 : ∀ z, mkL false [w, w] z = .ok (.lst [w, w]) z := fun z => mkF _ (by simp) z
  simp [-mkL_val, inTurn, e1, e2, e3, e4, ne, k1, k2, hl, eMeth, io, e5, hl2]
theorem wr_3 (b : Sm) (d : D) (x0 x1 x2 x3 a c e : Option D) : inTurn (gN 4) b d [x0, x1, x2, x3, a, c, e] st = b [x0, x1, x2, x3, some d, c, e] st := rfl
theorem so5 {z r : D} (i0 : ixD t (.int 0) st = .ok (.str "told") st) (i1 : ixD t (.int 1) st = .ok z st) (j0 : ixD (.lst [t, t]) (.int 0) st = .ok t st) (j1 : ixD (.lst [t, t]) (.int 1) st = .ok t st) (ne : neD (.str "told") (.str "told") st = .ok (.bl false) st) (m0 : ixD M (.int 0) st = .ok r st) (e : f__law_step_so [z, r] st = .ok (.bl true) st) (q : eqLs "Step" f_Step___eq__ t t st = .ok (.bl true) st) :
    (sIf (tOr (tOf (eBin neD (eBin ixD (eBin ixD (eVar 3) (eC (.int 0))) (eC (.int 0))) (eC (.str "told")))) (tOr (Sim.tNot (tOf (eCall f__law_step_so (aCons (eBin ixD (eBin ixD (eVar 3) (eC (.int 0))) (eC (.int 1))) (aCons (eBin ixD (eVar 0) (eC (.int 0))) aNil)) []))) (Sim.tNot (tOf (eBin (eqLs "Step" f_Step___eq__) (eBin ixD (eVar 3) (eC (.int 1))) (eBin ixD (eVar 3) (eC (.int 0)))))))) (sRet (eC (.bl false))) sNil) [some M, some tv, some T, some (.lst [t, t]), x4, x5, none] st = .nx [some M, some tv, some T, some (.lst [t, t]), x4, x5, none] st := by
  generalize D.lst [t, t] = tt at *
  simp [i0, i1, j0, j1, ne, m0, e, q]
theorem so6 {z u : D} (i1 : ixD t (.int 1) st = .ok z st) (j0 : ixD (.lst [t, t]) (.int 0) st = .ok t st) (e : f_table_of [z] st = .ok u st) (q : eqO "Table" clsL f_Table___eq__ u tv st = .ok (.bl true) st) (io : insOf "Table" "lines" tv st = true) (e5 : f_Table_lines [tv] st = .ok M st) (hl2 : f__law_like 6 [M, M] st = .ok (.bl true) st) :
    (sRet (eAnd (eBin (eqO "Table" clsL f_Table___eq__) (eCall f_table_of (aCons (eBin ixD (eBin ixD (eVar 3) (eC (.int 0))) (eC (.int 1))) aNil) []) (eVar 1)) (eCall (f__law_like 6) (aCons (eMeth "Table" "lines" f_Table_lines (eVar 1) aNil) (aCons (eVar 0) aNil)) []))) [some M, some tv, some T, some (.lst [t, t]), x4, x5, none] st = .rt (.bl true) st := by
  generalize D.lst [t, t] = tt at *
  simp [i1, j0, e, q, eMeth, io, e5, hl2]
end
section
variable {R T : List (List Rat)} {n : Nat} (hR : R.length = n) (hT : T.length = n) (qR : Sqr R) (qT : Sqr T) (h24 : n ≤ 24) {st : Sto}
include hR hT qR qT h24
theorem winner {i : Nat} {r t : List Rat} (hr : R[i]? = some r) (ht : T[i]? = some t) {li : Int} (hli : li = (i : Nat)) {tv q : D} (z : Option D) :
    (fdf r t = none → ∃ z', sFor (iRange1 (aCons (eCB lenD (aCons (eVar 0) aNil)) aNil)) (gN 5) wrB [some (.lst (R.map fl)), some tv, some (.lst (T.map fl)), some q, some (.int li), z, none] st = .nx [some (.lst (R.map fl)), some tv, some (.lst (T.map fl)), some q, some (.int li), z', none] st) ∧
      ∀ j w, fdf r t = some j → w = .lst [.str "NotATable", .int ((i + 1 : Nat) : Int), .int ((j + 1 : Nat) : Int)] → q = .lst [w, w] → insOf "Table" "lines" tv st = true → f_Table_lines [tv] st = .ok (.lst (R.map fl)) st → sFor (iRange1 (aCons (eCB lenD (aCons (eVar 0) aNil)) aNil)) (gN 5) wrB [some (.lst (R.map fl)), some tv, some (.lst (T.map fl)), some q, some (.int li), z, none] st = .rt (.bl true) st := by
  have lr : r.length = n := by rw [← hR]; exact qR r (List.mem_of_getElem? hr)
  have lt : t.length = n := by rw [← hT]; exact qT t (List.mem_of_getElem? ht)
  have rg := range_li (i := 0) (σ := [some (.lst (R.map fl)), some tv, some (.lst (T.map fl)), some q, some (.int li), z, none]) (st := st) rfl (Rlen R (n := (n : Nat)) (by rw [hR]) st) (big_of (by omega) (by omega)) (m := n) (by omega)
  refine ⟨fun hn => ?_, fun j w hj hw hq io hl => ?_⟩
  · have hrt := fdf_none (by rw [lr, lt]) hn
    have := forM_all (f := inTurn (gN 5) wrB) (st := st) (Inv := fun σ => ∃ z', σ = [some (.lst (R.map fl)), some tv, some (.lst (T.map fl)), some q, some (.int li), z', none]) (intsL 0 n) [some (.lst (R.map fl)), some tv, some (.lst (T.map fl)), some q, some (.int li), z, none] ⟨z, rfl⟩ fun k d σ hd hi => by
      obtain ⟨z', rfl⟩ := hi
      obtain ⟨hk, rfl⟩ := ints_of hd
      obtain ⟨v, hx⟩ : ∃ v, r[k]? = some v := ⟨_, List.getElem?_eq_getElem (by omega)⟩
      have hy : t[k]? = some v := by rw [← hrt]; exact hx
      have ne := ne_fr v v st
      rw [decide_eq_true rfl] at ne
      exact ⟨_, wr_turn (Rix hli hr st) (fix (i := k) (by omega) hx st) (Rix hli ht st) (fix (i := k) (by omega) hy st) ne, _, rfl⟩
    obtain ⟨σ', e, z', rfl⟩ := this
    exact ⟨z', (sFor_of rg).trans e⟩
  · obtain ⟨⟨x, y, hx, hy, hne⟩, hlt⟩ := fdf_spec hj
    have hjl : j < r.length := by
      obtain ⟨z, _⟩ := List.getElem?_eq_some_iff.mp hx
      exact z
    have plw : Pl 2 w := by
      rw [hw]
      exact plL (n := 1) (by simp) fun d hd => by
        simp only [List.mem_cons, List.not_mem_nil, or_false] at hd
        rcases hd with rfl | rfl | rfl
        · exact pl_str _ (by decide +kernel)
        · exact .int _ _
        · exact .int _ _
    have := forM_hit (f := inTurn (gN 5) wrB) (st := st) (Inv := fun σ => ∃ z', σ = [some (.lst (R.map fl)), some tv, some (.lst (T.map fl)), some q, some (.int li), z', none]) (Good := fun p => p = .rt (.bl true) st) (fun p e => .inl ⟨_, _, e⟩) (intsL 0 n) j [some (.lst (R.map fl)), some tv, some (.lst (T.map fl)), some q, some (.int li), z, none] ⟨z, rfl⟩ (fun k d σ hk hd hi => by
      obtain ⟨z', rfl⟩ := hi
      obtain ⟨hk', rfl⟩ := ints_of hd
      obtain ⟨v, hv1, hv2⟩ := hlt k hk
      have ne := ne_fr v v st
      rw [decide_eq_true rfl] at ne
      exact ⟨_, wr_turn (Rix hli hr st) (fix (i := k) (by omega) hv1 st) (Rix hli ht st) (fix (i := k) (by omega) hv2 st) ne, _, rfl⟩) ⟨_, ints_at (by omega), fun σ hi => by
      obtain ⟨z', rfl⟩ := hi
      have ne := ne_fr x y st
      rw [decide_eq_false hne] at ne
      rw [hq]
      exact wr_hit (Rix hli hr st) (fix (i := j) (by omega) hx st) (Rix hli ht st) (fix (i := j) (by omega) hy st) ne (by rw [hw, hli]; simp) (like (pl_two plw plw) 6 _ (by decide)) io hl (like (pl_fls R (by omega) (fun r hr => by rw [qR r hr]; omega)) 6 _ (by decide))⟩
    exact (sFor_of rg).trans this
theorem wsearch {tv q : D} :
    (fdR R T = none → ∃ a b, sFor (iRange1 (aCons (eCB lenD (aCons (eVar 0) aNil)) aNil)) (gN 4) (sFor (iRange1 (aCons (eCB lenD (aCons (eVar 0) aNil)) aNil)) (gN 5) wrB) [some (.lst (R.map fl)), some tv, some (.lst (T.map fl)), some q, none, none, none] st = .nx [some (.lst (R.map fl)), some tv, some (.lst (T.map fl)), some q, a, b, none] st) ∧
      ∀ i j w, fdR R T = some (i, j) → w = .lst [.str "NotATable", .int ((i + 1 : Nat) : Int), .int ((j + 1 : Nat) : Int)] → q = .lst [w, w] → insOf "Table" "lines" tv st = true → f_Table_lines [tv] st = .ok (.lst (R.map fl)) st → sFor (iRange1 (aCons (eCB lenD (aCons (eVar 0) aNil)) aNil)) (gN 4) (sFor (iRange1 (aCons (eCB lenD (aCons (eVar 0) aNil)) aNil)) (gN 5) wrB) [some (.lst (R.map fl)), some tv, some (.lst (T.map fl)), some q, none, none, none] st = .rt (.bl true) st := by
  have rg := range_li (i := 0) (σ := [some (.lst (R.map fl)), some tv, some (.lst (T.map fl)), some q, none, none, none]) (st := st) rfl (Rlen R (n := (n : Nat)) (by rw [hR]) st) (big_of (by omega) (by omega)) (m := n) (by omega)
  refine ⟨fun hn => ?_, fun i j w hj hw hq io hl => ?_⟩
  · have := forM_all (f := inTurn (gN 4) (sFor (iRange1 (aCons (eCB lenD (aCons (eVar 0) aNil)) aNil)) (gN 5) wrB)) (st := st) (Inv := fun σ => ∃ a b, σ = [some (.lst (R.map fl)), some tv, some (.lst (T.map fl)), some q, a, b, none]) (intsL 0 n) [some (.lst (R.map fl)), some tv, some (.lst (T.map fl)), some q, none, none, none] ⟨none, none, rfl⟩ fun k d σ hd hi => by
      obtain ⟨a, b, rfl⟩ := hi
      obtain ⟨hk, rfl⟩ := ints_of hd
      obtain ⟨r, t, hr, ht, hf⟩ := fdR_none (by rw [hR, hT]) hn k (by omega)
      obtain ⟨z', e⟩ := (winner hR hT qR qT h24 (st := st) hr ht (li := 0 + (k : Nat)) (by omega) (tv := tv) (q := q) b).1 hf
      rw [wr_3, e]
      exact ⟨_, rfl, _, _, rfl⟩
    obtain ⟨σ', e, a, b, rfl⟩ := this
    exact ⟨a, b, (sFor_of rg).trans e⟩
  · obtain ⟨⟨r, t, hr, ht, hf⟩, hlt⟩ := fdR_spec hj
    have hk : i < n := by
      obtain ⟨z, _⟩ := List.getElem?_eq_some_iff.mp hr
      omega
    have := forM_hit (f := inTurn (gN 4) (sFor (iRange1 (aCons (eCB lenD (aCons (eVar 0) aNil)) aNil)) (gN 5) wrB)) (st := st) (Inv := fun σ => ∃ a b, σ = [some (.lst (R.map fl)), some tv, some (.lst (T.map fl)), some q, a, b, none]) (Good := fun p => p = .rt (.bl true) st) (fun p e => .inl ⟨_, _, e⟩) (intsL 0 n) i [some (.lst (R.map fl)), some tv, some (.lst (T.map fl)), some q, none, none, none] ⟨none, none, rfl⟩ (fun k' d σ hk' hd hi => by
      obtain ⟨a, b, rfl⟩ := hi
      obtain ⟨_, rfl⟩ := ints_of hd
      obtain ⟨r', t', hr', ht', hf'⟩ := hlt k' hk'
      obtain ⟨z', e⟩ := (winner hR hT qR qT h24 (st := st) hr' ht' (li := 0 + (k' : Nat)) (by omega) (tv := tv) (q := q) b).1 hf'
      rw [wr_3, e]
      exact ⟨_, rfl, _, _, rfl⟩) ⟨_, ints_at hk, fun σ hi => by
      obtain ⟨a, b, rfl⟩ := hi
      rw [wr_3]
      exact (winner hR hT qR qT h24 (st := st) hr ht (li := 0 + (i : Nat)) (by omega) (tv := tv) (q := q) b).2 j w hf hw hq io hl⟩
    exact (sFor_of rg).trans this
end
theorem law_so {R : List (List Rat)} {r0 : List Rat} (h0 : R[0]? = some r0) (qR : Sqr R) (h2 : 2 ≤ R.length) (h6 : R.length ≤ 6) (hq : QL r0) {st : Sto} (hs : NoR st) : f__law_so [.lst (R.map fl)] st = .ok (.bl true) st := by
  have lr : r0.length = R.length := qR r0 (List.mem_of_getElem? h0)
  have so := step_of h0 qR h2 h6 hq hs
  have ws := fun q => wsearch (R := R) (T := tb r0) (n := R.length) rfl (by rw [tb_len, lr]) qR (sqr_tb r0) (by omega) (st := st) (tv := tabV R) (q := q)
  have tl := t_lines (R := R) (by omega) (fun r hr => by rw [qR r hr]; omega) st
  have io := io_tb R st "lines" (.inl rfl)
  have m0 := Rix (i := 0) (ii := 0) rfl h0 st
  have hl := like (pl_fls R (by omega) (fun r hr => by rw [qR r hr]; omega)) 6 st (by decide)
  have pre : ∀ (t : D) (p : RS), (∀ (me : Em) (σ : Sl), me σ st = f_step_of_table [tabV R] st → eAsk f__law_ask me σ st = .ok t st) → (sSeq (sFor (iRange1 (aCons (eCB lenD (aCons (eVar 0) aNil)) aNil)) (gN 4) (sFor (iRange1 (aCons (eCB lenD (aCons (eVar 0) aNil)) aNil)) (gN 5) wrB)) (sSeq (sIf (tOr (tOf (eBin neD (eBin ixD (eBin ixD (eVar 3) (eC (.int 0))) (eC (.int 0))) (eC (.str "told")))) (tOr (Sim.tNot (tOf (eCall f__law_step_so (aCons (eBin ixD (eBin ixD (eVar 3) (eC (.int 0))) (eC (.int 1))) (aCons (eBin ixD (eVar 0) (eC (.int 0))) aNil)) []))) (Sim.tNot (tOf (eBin (eqLs "Step" f_Step___eq__) (eBin ixD (eVar 3) (eC (.int 1))) (eBin ixD (eVar 3) (eC (.int 0)))))))) (sRet (eC (.bl false))) sNil) (sRet (eAnd (eBin (eqO "Table" clsL f_Table___eq__) (eCall f_table_of (aCons (eBin ixD (eBin ixD (eVar 3) (eC (.int 0))) (eC (.int 1))) aNil) []) (eVar 1)) (eCall (f__law_like 6) (aCons (eMeth "Table" "lines" f_Table_lines (eVar 1) aNil) (aCons (eVar 0) aNil)) []))))) [some (.lst (R.map fl)), some (tabV R), some (.lst ((tb r0).map fl)), some (.lst [t, t]), none, none, none] st = p → m__law_so [some (.lst (R.map fl)), none, none, none, none, none, none] st = p := fun t p ask hp => by
    refine (seq_nx (so1 (mk_tb (row_arg rfl) h2 (by omega) qR hs))).trans ?_
    refine (seq_nx (so2 m0 (li_list r0 (by omega) st) (law_table hq (by omega) (by omega) hs))).trans ?_
    exact (seq_nx (os_two (ask _ _ (so_c rfl)) (ask _ _ (so_k rfl)) rfl)).trans hp
  unfold f__law_so
  refine def_rt rfl ?_ (Nat.le_refl _)
  show m__law_so [some (.lst (R.map fl)), none, none, none, none, none, none] st = _
  cases e : fdR R (tb r0) with
  | some p =>
    obtain ⟨i, j⟩ := p
    have sx := so.2 i j e
    refine pre (.lst [.str "NotATable", .int ((i + 1 : Nat) : Int), .int ((j + 1 : Nat) : Int)]) _ (fun me σ h => ask_nat hs (j := []) (by rw [List.append_nil]; exact h.trans sx) (nr_int _) (nr_int _)) ?_
    exact seq_rt ((ws _).2 i j _ e rfl rfl io tl)
  | none =>
    have sx := so.1 e
    have hRT : R = tb r0 := fdR_eq (by rw [tb_len, lr]) (fun k r s h1 h2 => by rw [qR r (List.mem_of_getElem? h1), tb_mem (List.mem_of_getElem? h2), lr]) e
    obtain ⟨a, b, w⟩ := (ws (.lst [.lst [.str "told", stepV r0], .lst [.str "told", stepV r0]])).1 e
    have tq : eqO "Table" clsL f_Table___eq__ (tabV (tb r0)) (tabV R) st = .ok (.bl true) st := by
      rw [← hRT]
      exact t_eq R st
    refine pre (.lst [.str "told", stepV r0]) _ (fun me σ h => ask_told (h.trans sx)) ?_
    refine (seq_nx w).trans ?_
    refine (seq_nx (so5 (ix_first _ _ _) (ix_snd _ _ _) (ix_first _ _ _) (ix_snd _ _ _) (ne_told _) m0 (step_so r0 (by omega) st) (ls_told _ _))).trans ?_
    exact so6 (ix_snd _ _ _) (ix_first _ _ _) (table_of hq (by omega) (by omega) hs) tq io tl hl
end K10

set_option exponentiation.threshold 20000
set_option linter.all false
set_option maxRecDepth 100000
set_option maxHeartbeats 4000000
namespace K10
open PySem PySem.Spec PyProof.Rows L2 Sim
open PySem.PyData (strOk)
/-! ### drawn numbers are sixths -/
def P6 (x : Rat) : Prop := Bd 24 x ∧ Qn 1 60000000 x
def P6L (xs : List Rat) : Prop := ∀ x ∈ xs, P6 x
theorem p6_0 : P6 0 := ⟨⟨by decide, by decide⟩, 0, by decide +kernel, by decide⟩
theorem p6_1 : P6 1 := ⟨⟨by decide, by decide⟩, 6, by decide +kernel, by decide⟩
theorem p6_m : P6 (-1) := ⟨⟨by decide, by decide⟩, -6, by decide +kernel, by decide⟩
def Nx (d : D) : Prop := ∃ x, d = fr x ∧ P6 x
theorem nx_0 : Nx (.tup [.int 0, .int 1]) := ⟨0, rfl, p6_0⟩
theorem nx_1 : Nx (.tup [.int 1, .int 1]) := ⟨1, rfl, p6_1⟩
theorem s6_1 : s6 1 = 6 := by decide +kernel
theorem nx_of {p z : Int} (hz : z = 1 ∨ z = 2 ∨ z = 3) (hp : p.natAbs < 10000000) (h1 : ((p : Rat) / (z : Rat)).num.natAbs ≤ p.natAbs) (h2 : ((p : Rat) / (z : Rat)).den ≤ z.natAbs) : Nx (fr ((p : Rat) / (z : Rat))) := by
  refine ⟨_, rfl, ⟨by omega, by omega⟩, ?_⟩
  rcases hz with rfl | rfl | rfl
  · refine ⟨6 * p, ?_, by omega⟩
    rw [s6_1, Rat.intCast_mul]
    have : ((1 : Int) : Rat) = 1 := rfl
    rw [this]
    have h6 : ((6 : Int) : Rat) = 6 := rfl
    rw [h6]
    grind
  · refine ⟨3 * p, ?_, by omega⟩
    rw [s6_1, Rat.intCast_mul]
    have : ((2 : Int) : Rat) = 2 := rfl
    rw [this]
    have h6 : ((3 : Int) : Rat) = 3 := rfl
    rw [h6]
    grind
  · refine ⟨2 * p, ?_, by omega⟩
    rw [s6_1, Rat.intCast_mul]
    have : ((3 : Int) : Rat) = 3 := rfl
    rw [this]
    have h6 : ((2 : Int) : Rat) = 2 := rfl
    rw [h6]
    grind
theorem number6 {o : Option O} (h : BInv o) : ∃ (d : D) (o' : Option O), (∀ sr : Sto, f__law_number [.ref 0] (o :: sr) = .ok d (o' :: sr)) ∧ BInv o' ∧ Nx d := by
  obtain ⟨r, o1, e1, h1, r0, r1⟩ := draw h (L := 18) (by decide) (by decide)
  by_cases c1 : r < 6
  · refine ⟨.tup [.int 0, .int 1], o1, fun sr => ?_, h1, nx_0⟩
    simp only [f__law_number, chk, runDef, m__law_number]
    simp [e1, c1, finR_le, two_le_line]
  by_cases c2 : r < 8
  · refine ⟨.tup [.int 1, .int 1], o1, fun sr => ?_, h1, nx_1⟩
    simp only [f__law_number, chk, runDef, m__law_number]
    simp [e1, c1, c2, finR_le, two_le_line]
  obtain ⟨s, o2, e2, h2, s0, s1⟩ := draw h1 (L := 9) (by decide) (by decide)
  have l3 : ∀ (a b c : D) st, mkL false [a, b, c] st = .ok (.lst [a, b, c]) st := fun _ _ _ _ => rfl
  have l6 : ∀ (a b c d e f : D) st, mkL false [a, b, c, d, e, f] st = .ok (.lst [a, b, c, d, e, f]) st := fun _ _ _ _ _ _ _ => rfl
  have fin : ∀ (p : Int) (o : Option O), BInv o → 1 ≤ p → p < 10000000 → ∃ (d : D) (o' : Option O), (∃ (q : Int) (o2 : Option O), (∀ sr : Sto, f__law_draw [.ref 0, .int 2] (o :: sr) = .ok (.int q) (o2 :: sr)) ∧ ∃ z, (∀ sr : Sto, f__law_of [.ref 0, .lst [.int 1, .int 1, .int 2, .int 1, .int 3, .int 1]] (o2 :: sr) = .ok (.int z) (o' :: sr)) ∧ ∀ st, f__law_low [.int (if q = 1 then -p else p), .int z] st = .ok d st) ∧ BInv o' ∧ Nx d := by
    intro p o h p0 p1
    obtain ⟨q, o2, e3, h3, _, _⟩ := draw h (L := 2) (by decide) (by decide)
    obtain ⟨z, hz, o4, e4, h4⟩ := of_ints h3 (ns := [1, 1, 2, 1, 3, 1]) (by decide) (by decide)
    have hz2 : 1 ≤ z ∧ z ≤ 3 := by simp at hz; omega
    have hz3 : z = 1 ∨ z = 2 ∨ z = 3 := by omega
    have lf := low_fr (if q = 1 then -p else p) z (by omega) (a := 200) (by omega) (by decide) (x := (((if q = 1 then -p else p) : Int) : Rat) / (z : Rat)) rfl
    have : (if q = 1 then -p else p).natAbs = p.natAbs := by split <;> omega
    exact ⟨_, o4, ⟨q, o2, e3, z, e4, lf.1⟩, h4, nx_of hz3 (by omega) lf.2.2.1 lf.2.2.2⟩
  by_cases c3 : r = 17
  · obtain ⟨n, hn, o3, e3, h3⟩ := of_ints h2 (ns := [100, 10000, 1000000]) (by decide) (by decide)
    have hn2 : 1 ≤ n ∧ n ≤ 1000000 := by simp at hn; omega
    obtain ⟨t, o4, e4, h4, t0, t1⟩ := draw h3 (L := n) hn2.1 (by omega)
    obtain ⟨d, o5, hx, h5, hd⟩ := fin (1 + s + t) o4 h4 (by omega) (by omega)
    obtain ⟨q, o6, e6, z, e7, e8⟩ := hx
    refine ⟨d, o5, fun sr => ?_, h5, hd⟩
    simp only [List.map_cons, List.map_nil] at e3
    simp only [f__law_number, chk, runDef, m__law_number]
    by_cases c4 : q = 1
    · rw [if_pos c4] at e8
      simp [e1, c1, c2, e2, eqD_int, c3, l3, l6, e3, e4, e6, c4, e7, e8, finR_le]
    · rw [if_neg c4] at e8
      simp [e1, c1, c2, e2, eqD_int, c3, l3, l6, e3, e4, e6, c4, e7, e8, finR_le]
  · obtain ⟨d, o5, hx, h5, hd⟩ := fin (1 + s) o2 h2 (by omega) (by omega)
    obtain ⟨q, o6, e6, z, e7, e8⟩ := hx
    refine ⟨d, o5, fun sr => ?_, h5, hd⟩
    simp only [f__law_number, chk, runDef, m__law_number]
    by_cases c4 : q = 1
    · rw [if_pos c4] at e8
      simp [e1, c1, c2, e2, eqD_int, c3, l3, l6, e6, c4, e7, e8, finR_le]
    · rw [if_neg c4] at e8
      simp [e1, c1, c2, e2, eqD_int, c3, l3, l6, e6, c4, e7, e8, finR_le]
theorem num6 {o : Option O} (h : BInv o) : ∃ (x : Rat) (o' : Option O), (∀ sr : Sto, f__law_number [.ref 0] (o :: sr) = .ok (fr x) (o' :: sr)) ∧ BInv o' ∧ P6 x := by
  obtain ⟨d, o', e, b, x, rfl, hx⟩ := number6 h
  exact ⟨x, o', e, b, hx⟩
theorem full6 {o : Option O} (h : BInv o) : ∃ (x : Rat) (o' : Option O), (∀ sr : Sto, f__law_full [.ref 0] (o :: sr) = .ok (fr x) (o' :: sr)) ∧ BInv o' ∧ P6 x := by
  obtain ⟨x, o1, e1, b1, hx⟩ := num6 h
  obtain ⟨d, hd, o2, e2, b2⟩ := of_lst b1 (ds := [.tup [.int 1, .int 1], .tup [.int (-1), .int 1], .tup [.int 1, .int 2], .tup [.int (-3), .int 1], .tup [.int 2, .int 1]]) (by simp) (by simp)
  have hd2 : ∃ y : Rat, d = fr y ∧ P6 y := by
    simp only [List.mem_cons, List.not_mem_nil, or_false] at hd
    rcases hd with rfl | rfl | rfl | rfl | rfl
    · exact ⟨mkf 1 1, rfl, ⟨by decide, by decide⟩, 6, by decide +kernel, by decide⟩
    · exact ⟨mkf (-1) 1, rfl, ⟨by decide, by decide⟩, -6, by decide +kernel, by decide⟩
    · exact ⟨mkf 1 2, rfl, ⟨by decide, by decide⟩, 3, by decide +kernel, by decide⟩
    · exact ⟨mkf (-3) 1, rfl, ⟨by decide, by decide⟩, -18, by decide +kernel, by decide⟩
    · exact ⟨mkf 2 1, rfl, ⟨by decide, by decide⟩, 12, by decide +kernel, by decide⟩
  obtain ⟨y, rfl, hy⟩ := hd2
  have i1 := fr0 x
  by_cases c : x.num = 0
  · refine ⟨y, o2, fun sr => ?_, b2, hy⟩
    generalize fr x = fx at i1 e1
    generalize fr y = fy at e2 ⊢
    generalize x.num = xn at *
    unfold f__law_full
    refine def_rt rfl ?_ (by simp)
    show m__law_full [some (.ref 0), none] (o :: sr) = _
    unfold m__law_full
    simp [e1, i1, neD_int, decide_eq_true c, two_le_line, mkF, le_line, e2]
  · refine ⟨x, o1, fun sr => ?_, b1, hx⟩
    generalize fr x = fx at i1 e1 ⊢
    generalize x.num = xn at *
    unfold f__law_full
    refine def_rt rfl ?_ (by simp)
    show m__law_full [some (.ref 0), none] (o :: sr) = _
    unfold m__law_full
    simp [e1, i1, neD_int, decide_eq_false c]
theorem nums6 {i : Nat} {σ : Sl} (h0 : (wipeD σ [i])[0]? = some (some (.ref 0))) (hi : 0 ≠ i) : ∀ (m : Nat) (lo : Int) (o : Option O), BInv o → ∃ (ys : List Rat) (o' : Option O), (∀ sr : Sto, compM (compF [i] (gN i) tTrue (eCall f__law_number (aCons (eVar 0) aNil) []) σ) (intsL lo m) (o :: sr) = .ok (ys.map fr) (o' :: sr)) ∧ BInv o' ∧ P6L ys ∧ ys.length = m
  | 0, _, o, h => ⟨[], o, (fun _ => rfl), h, (fun x hx => by cases hx), rfl⟩
  | m + 1, lo, o, h => by
    obtain ⟨x, o1, e1, b1, hx⟩ := num6 h
    obtain ⟨ys, o', e2, b2, hy, hl⟩ := nums6 h0 hi m (lo + 1) o1 b1
    refine ⟨x :: ys, o', fun sr => ?_, b2, fun z hz => ?_, by simp [hl]⟩
    · rw [intsL_cons]
      unfold compM
      have e : compF [i] (gN i) tTrue (eCall f__law_number (aCons (eVar 0) aNil) []) σ (.int lo) (o :: sr) = .ok (some (fr x)) (o1 :: sr) := by
        have q : ((wipeD σ [i]).set i (some (.int lo)))[0]? = some (some (.ref 0)) := by
          rw [List.getElem?_set_ne (Ne.symm hi)]
          exact h0
        have e3 := e1 sr
        rw [compF_1]
        generalize fr x = fx at *
        simp [q, e3]
      rw [e]
      simp only [e2 sr]
      rfl
    · rcases List.mem_cons.mp hz with rfl | q
      · exact hx
      · exact hy z q
theorem spread6 {o : Option O} (h : BInv o) {k : Int} {n : Nat} (hk : k = (n : Nat)) (h1 : 1 ≤ n) (h24 : n ≤ 24) {z : Rat} (hz : P6 z) : ∃ (ys : List Rat) (o' : Option O), (∀ sr : Sto, f__law_spread [.ref 0, .int k, fr z] (o :: sr) = .ok (.lst (ys.map fr)) (o' :: sr)) ∧ BInv o' ∧ P6L ys ∧ ys.length = n := by
  obtain ⟨g, hg, o1, e1, b1⟩ := of_ints h (ns := [0, 1, 0, 2, 0, 1, 3]) (by simp) (by simp)
  have hg2 : 0 ≤ g ∧ g ≤ 3 := by simp at hg; omega
  obtain ⟨w, o2, e2, b2, hw⟩ := full6 b1
  let zs : List Rat := tab 0 g.toNat (fun _ => 0)
  have zl : zs.length = g.toNat := tab_len ..
  obtain ⟨ys, o3, e3, b3, hy, hl⟩ := nums6 (i := 5) (σ := [some (.ref 0), some (.int k), some (fr z), some (.int g), some (.lst (fr z :: (zs.map fr ++ [fr w]))), none]) rfl (by decide) n 0 o2 b2
  have hap : fr z :: (zs.map fr ++ [fr w]) ++ ys.map fr = (z :: (zs ++ [w]) ++ ys).map fr := by simp
  have ll : (z :: (zs ++ [w]) ++ ys).length = g.toNat + 2 + n := by simp [zl, hl]; omega
  refine ⟨(z :: (zs ++ [w]) ++ ys).take n, o3, fun sr => ?_, b3, fun x hx => ?_, by rw [List.length_take, ll]; omega⟩
  · unfold f__law_spread
    refine def_rt rfl ?_ (by simp)
    have es := sl_to (ds := (z :: (zs ++ [w]) ++ ys).map fr) (k := n) (ki := k) hk (by rw [List.length_map, ll]; omega) (o3 :: sr)
    rw [← List.map_take] at es
    simp only [List.map_cons, List.map_nil] at e1
    refine spread_m (e1 sr) (rep_zeros (g := g) (n := g.toNat) (by omega) (by omega) _) (by rw [List.length_map, tab_len]; omega) (e2 sr) rfl (big_of (by omega) (by omega)) (by omega) (e3 sr) (mkE ys (by omega) _) (by rw [List.length_map]; omega) hap.symm es
  · have hx := List.mem_of_mem_take hx
    have h0 : P6 (0 : Rat) := p6_0
    simp only [List.mem_append, List.mem_cons, List.not_mem_nil, or_false] at hx
    rcases hx with (rfl | hx | rfl) | hx
    · exact hz
    · obtain ⟨i, _, rfl⟩ := tab_mem hx
      exact h0
    · exact hw
    · exact hy x hx
theorem lead6 {o : Option O} (h : BInv o) : ∃ (x : Rat) (o' : Option O), (∀ sr : Sto, f__law_lead [.ref 0] (o :: sr) = .ok (fr x) (o' :: sr)) ∧ BInv o' ∧ P6 x := by
  obtain ⟨d, hd, o2, e2, b2⟩ := of_lst h (ds := [.tup [.int 2, .int 1], .tup [.int 1, .int 2], .tup [.int (-1), .int 2], .tup [.int 3, .int 1], .tup [.int (-2), .int 1], .tup [.int 1, .int 3], .tup [.int 3, .int 2]]) (by simp) (by simp)
  have hd2 : ∃ y : Rat, d = fr y ∧ P6 y := by
    simp only [List.mem_cons, List.not_mem_nil, or_false] at hd
    rcases hd with rfl | rfl | rfl | rfl | rfl | rfl | rfl
    · exact ⟨mkf 2 1, rfl, ⟨by decide, by decide⟩, 12, by decide +kernel, by decide⟩
    · exact ⟨mkf 1 2, rfl, ⟨by decide, by decide⟩, 3, by decide +kernel, by decide⟩
    · exact ⟨mkf (-1) 2, rfl, ⟨by decide, by decide⟩, -3, by decide +kernel, by decide⟩
    · exact ⟨mkf 3 1, rfl, ⟨by decide, by decide⟩, 18, by decide +kernel, by decide⟩
    · exact ⟨mkf (-2) 1, rfl, ⟨by decide, by decide⟩, -12, by decide +kernel, by decide⟩
    · exact ⟨mkf 1 3, rfl, ⟨by decide, by decide⟩, 2, by decide +kernel, by decide⟩
    · exact ⟨mkf 3 2, rfl, ⟨by decide, by decide⟩, 9, by decide +kernel, by decide⟩
  obtain ⟨y, rfl, hy⟩ := hd2
  refine ⟨y, o2, fun sr => ?_, b2, hy⟩
  unfold f__law_lead
  exact def_rt rfl (lead_m (e2 sr)) (by simp)
theorem step6 {o : Option O} (h : BInv o) {k : Int} {n : Nat} (hk : k = ((n + 1 : Nat) : Int)) (h24 : n + 1 ≤ 24) : ∃ (ys : List Rat) (o' : Option O), (∀ sr : Sto, f__law_step [.ref 0, .int k] (o :: sr) = .ok (.lst (ys.map fr)) (o' :: sr)) ∧ BInv o' ∧ P6L ys ∧ ys.length = n + 1 := by
  obtain ⟨p, o1, e1, b1, p0, p14⟩ := draw h (L := 14) (by decide) (by decide)
  have sp := fun (z : Rat) (hz : P6 z) => spread6 b1 (k := k) (n := n + 1) hk (by omega) h24 hz
  by_cases c1 : p < 2
  · obtain ⟨x, hx, bx⟩ : ∃ x : Rat, D.tup [.int p, .int 1] = fr x ∧ P6 x := by
      have : p = 0 ∨ p = 1 := by omega
      rcases this with rfl | rfl
      · exact ⟨0, rfl, p6_0⟩
      · exact ⟨1, rfl, p6_1⟩
    refine ⟨cRow x n, o1, fun sr => ?_, b1, fun y hy => ?_, by simp [tab_len]⟩
    · unfold f__law_step
      have c := cat_row (x := x) (n := n) (by omega) (o1 :: sr)
      rw [← hx] at c
      exact def_rt rfl (st_a (e1 sr) c1 (rep_zeros (n := n) (by omega) (by omega) _) c) (by simp)
    · rcases List.mem_cons.mp hy with rfl | hy
      · exact bx
      · obtain ⟨i, _, rfl⟩ := tab_mem hy
        exact p6_0
  by_cases c2 : p < 7
  · obtain ⟨ys, o2, e2, b2, hy, hl⟩ := sp 1 p6_1
    refine ⟨ys, o2, fun sr => ?_, b2, hy, hl⟩
    unfold f__law_step
    exact def_rt rfl (st_b (e1 sr) c1 c2 (e2 sr)) (by simp)
  by_cases c3 : p < 9
  · obtain ⟨ys, o2, e2, b2, hy, hl⟩ := sp (-1) p6_m
    refine ⟨ys, o2, fun sr => ?_, b2, hy, hl⟩
    unfold f__law_step
    exact def_rt rfl (st_c (e1 sr) c2 c3 (e2 sr)) (by simp)
  by_cases c4 : p < 12
  · obtain ⟨x, o2, e2, b2, hx⟩ := lead6 b1
    obtain ⟨ys, o3, e3, b3, hy, hl⟩ := spread6 b2 (k := k) (n := n + 1) hk (by omega) h24 hx
    refine ⟨ys, o3, fun sr => ?_, b3, hy, hl⟩
    unfold f__law_step
    exact def_rt rfl (st_d (e1 sr) c3 c4 (e2 sr) (e3 sr)) (by simp)
  · obtain ⟨ys, o2, e2, b2, hy, hl⟩ := sp 0 p6_0
    refine ⟨ys, o2, fun sr => ?_, b2, hy, hl⟩
    unfold f__law_step
    exact def_rt rfl (st_e (e1 sr) c4 (e2 sr)) (by simp)
end K10

set_option exponentiation.threshold 20000
set_option linter.all false
set_option maxRecDepth 100000
set_option maxHeartbeats 4000000
namespace K10
open PySem PySem.Spec PyProof.Rows L2 Sim
open PySem.PyData (strOk)
theorem qn_key {e : Nat} {N : Int} {x : Rat} (hN : x * s6 e = (N : Rat)) : x.num.natAbs * 6 ^ e = N.natAbs * x.den := by
  have key : x.num * ((6 ^ e : Nat) : Int) = N * (x.den : Int) := by
    have e1 := rat_eq x
    have hd := den_ne x
    have e2 : (x.num : Rat) * s6 e = (N : Rat) * (x.den : Rat) := by
      rw [← hN]
      have e3 : x * (x.den : Rat) = (x.num : Rat) := by
        have := Rat.div_mul_cancel (a := (x.num : Rat)) hd
        rw [e1] at this
        exact this
      rw [← e3]
      grind
    unfold s6 at e2
    have e4 : ((x.num * ((6 ^ e : Nat) : Int) : Int) : Rat) = ((N * (x.den : Int) : Int) : Rat) := by
      rw [Rat.intCast_mul, Rat.intCast_mul]
      exact e2
    exact Rat.intCast_inj.mp e4
  have := congrArg Int.natAbs key
  rw [Int.natAbs_mul, Int.natAbs_mul, Int.natAbs_natCast, Int.natAbs_natCast] at this
  exact this
/-- an entry that is bent -/
theorem bent6 {o : Option O} (h : BInv o) {a : Rat} (ha : Bd 1300 a) : ∃ (x : Rat) (o' : Option O), (∀ sr : Sto, f__law_bent [.ref 0, fr a] (o :: sr) = .ok (fr x) (o' :: sr)) ∧ BInv o' ∧ Bd 200 x ∧ ((∃ B, Qn 1 B a) → Qn 1 (2 ^ 203) x) := by
  obtain ⟨f, o1, e1, b1, hf⟩ := full6 h
  obtain ⟨N, hN, eN⟩ := powT 60 (by decide)
  obtain ⟨ab, hab, ea⟩ := absN (a + f).num
  have e2 := law_add ha hf.1 (by decide)
  have t := t60
  have hN' : N = ((10 ^ 60 : Nat) : Int) := by rw [hN]; rfl
  by_cases c : ab < N ∧ ((a + f).den : Int) < N
  · have c1 : (a + f).num.natAbs < 10 ^ 60 := by omega
    have c2 : (a + f).den < 10 ^ 60 := by omega
    refine ⟨a + f, o1, fun sr => ?_, b1, ⟨by omega, by omega⟩, fun ⟨B, hB⟩ => ?_⟩
    · unfold f__law_bent
      refine def_rt rfl ?_ (by simp)
      exact bent_a (e1 sr) (e2 _) (fr0 _ _) (fr1 _ _) (ea _) (eN _) c.1 c.2
    · obtain ⟨M, hM, _⟩ := hB.add hf.2
      have k := qn_key hM
      have hd : 1 ≤ (a + f).den := by have := (a + f).den_nz; omega
      have h1 : M.natAbs ≤ M.natAbs * (a + f).den := Nat.le_mul_of_pos_right _ hd
      refine ⟨M, hM, ?_⟩
      have h6 : (6 : Nat) ^ 1 = 6 := rfl
      rw [h6] at k
      have h203 : (2 : Nat) ^ 203 = 2 ^ 200 * 8 := rfl
      omega
  · obtain ⟨y, o2, e3, b2, hy⟩ := num6 b1
    refine ⟨y, o2, fun sr => ?_, b2, hy.1.up (by decide), fun _ => hy.2.mono (by decide)⟩
    unfold f__law_bent
    refine def_rt rfl ?_ (by simp)
    exact bent_b (e1 sr) (e2 _) (fr0 _ _) (fr1 _ _) (ea _) (eN _) c (e3 sr)
/-! ### lines that are changed -/
structure Mat (n : Nat) (R : List (List Rat)) : Prop where
  len : R.length = n
  sq : ∀ r ∈ R, r.length = n
  bd : ∀ r ∈ R, BdL 1300 r
  top : ∀ r, R[0]? = some r → QL r
section
variable {m part : D} {st s1 s2 : Sto} {x3 x4 : Option D}
theorem ch1 {n : D} (l : lenD [m] st = .ok n st) : (sSet 2 (eCB lenD (aCons (eVar 1) aNil))) [some (.ref 0), some m, none, none, none, none, none] st = .nx [some (.ref 0), some m, some n, none, none, none, none] st := by
  simp [l]
theorem ch2 {n k j : D} (e1 : f__law_draw [.ref 0, n] st = .ok k s1) (e2 : f__law_draw [.ref 0, n] s1 = .ok j s2) : (sPar 5 6 (eCall f__law_draw (aCons (eVar 0) (aCons (eVar 2) aNil)) []) (eCall f__law_draw (aCons (eVar 0) (aCons (eVar 2) aNil)) [])) [some (.ref 0), some m, some n, none, none, none, none] st = .nx [some (.ref 0), some m, some n, none, none, some k, some j] s2 := by
  simp [e1, e2]
theorem ch3 {n k j p : D} (e : f__law_draw [.ref 0, .int 6] st = .ok p s1) : (sSet 3 (eCall f__law_draw (aCons (eVar 0) (aCons (eC (.int 6)) aNil)) [])) [some (.ref 0), some m, some n, none, none, some k, some j] st = .nx [some (.ref 0), some m, some n, some p, none, some k, some j] s1 := by
  simp [e]
abbrev chB : Sm := (sIf (tOf (eBin eqD (eVar 3) (eC (.int 0)))) (sPar 5 6 (eBin subI (eVar 2) (eC (.int 1))) (eBin subI (eVar 2) (eC (.int 1)))) (sIf (tOf (eBin eqD (eVar 3) (eC (.int 1)))) (sSet 5 (eC (.int 0))) (sIf (tOf (eBin eqD (eVar 3) (eC (.int 2)))) (sSet 6 (eVar 5)) (sIf (tOf (eBin eqD (eVar 3) (eC (.int 3)))) (sPar 5 6 (eCB maxD (aCons (eVar 5) (aCons (eVar 6) aNil))) (eCB minD (aCons (eVar 5) (aCons (eVar 6) aNil)))) sNil))))
theorem ch4 {n k j p : Int} (k0 : 0 ≤ k) (k1 : k < n) (j0 : 0 ≤ j) (j1 : j < n) : ∃ k' j' : Int, (0 ≤ k' ∧ k' < n) ∧ (0 ≤ j' ∧ j' < n) ∧ ∀ st : Sto, chB [some (.ref 0), some m, some (.int n), some (.int p), none, some (.int k), some (.int j)] st = .nx [some (.ref 0), some m, some (.int n), some (.int p), none, some (.int k'), some (.int j')] st := by
  by_cases c0 : p = 0
  · exact ⟨n - 1, n - 1, by omega, by omega, fun st => by simp [eqD_int, decide_eq_true c0]⟩
  by_cases c1 : p = 1
  · exact ⟨0, j, by omega, by omega, fun st => by simp [eqD_int, decide_eq_false c0, decide_eq_true c1]⟩
  by_cases c2 : p = 2
  · exact ⟨k, k, by omega, by omega, fun st => by simp [eqD_int, decide_eq_false c0, decide_eq_false c1, decide_eq_true c2]⟩
  by_cases c3 : p = 3
  · refine ⟨if j > k then j else k, if j < k then j else k, by split <;> omega, by split <;> omega, fun st => ?_⟩
    simp [eqD_int, decide_eq_false c0, decide_eq_false c1, decide_eq_false c2, decide_eq_true c3]
  · exact ⟨k, j, by omega, by omega, fun st => by simp [eqD_int, decide_eq_false c0, decide_eq_false c1, decide_eq_false c2, decide_eq_false c3]⟩
theorem ch5 {n k j p : D} (i : ixD m k st = .ok part st) : (sSet 4 (eBin ixD (eVar 1) (eVar 5))) [some (.ref 0), some m, some n, some p, none, some k, some j] st = .nx [some (.ref 0), some m, some n, some p, some part, some k, some j] st := by
  simp [i]
theorem ch6 {n p a x r : D} {k j : Int} {A B C E : List D} (sA : slD false m none (some k) st = .ok (.lst A) st) (sC : slD false part none (some j) st = .ok (.lst C) st) (i : ixD part (.int j) st = .ok a st) (e : f__law_bent [.ref 0, a] st = .ok x s1) (sE : slD false part (some (j + 1)) none s1 = .ok (.lst E) s1) (sB : slD false m (some (k + 1)) none s1 = .ok (.lst B) s1) (hr : r = .lst (A ++ [.lst (C ++ [x] ++ E)] ++ B)) (l1 : A.length + B.length ≤ 100) (l2 : C.length + E.length ≤ 100) :
    (sRet (eBin (catL false) (eBin (catL false) (eSl false (eVar 1) pNone (pSome (eVar 5))) (eLst false (aCons (eBin (catL false) (eBin (catL false) (eSl false (eVar 4) pNone (pSome (eVar 6))) (eLst false (aCons (eCall f__law_bent (aCons (eVar 0) (aCons (eBin ixD (eVar 4) (eVar 6)) aNil)) []) aNil))) (eSl false (eVar 4) (pSome (eBin addD (eVar 6) (eC (.int 1)))) pNone)) aNil))) (eSl false (eVar 1) (pSome (eBin addD (eVar 5) (eC (.int 1)))) pNone))) [some (.ref 0), some m, some n, some p, some part, some (.int k), some (.int j)] st = .rt r s1 := by
  have k1 : ∀ z, mkL false [x] z = .ok (.lst [x]) z := fun z => mkF _ (by simp) z
  have c1 : ∀ z, catL false (.lst C) (.lst [x]) z = .ok (.lst (C ++ [x])) z := fun z => by rw [catE]; exact mkF _ (by simp; omega) z
  have c2 : ∀ z, catL false (.lst (C ++ [x])) (.lst E) z = .ok (.lst (C ++ [x] ++ E)) z := fun z => by rw [catE]; exact mkF _ (by simp; omega) z
  obtain ⟨q, hq⟩ : ∃ q, q = C ++ [x] ++ E := ⟨_, rfl⟩
  rw [← hq] at c2 hr
  have k2 : ∀ z, mkL false [.lst q] z = .ok (.lst [.lst q]) z := fun z => mkF _ (by simp) z
  have c3 : ∀ z, catL false (.lst A) (.lst [.lst q]) z = .ok (.lst (A ++ [.lst q])) z := fun z => by rw [catE]; exact mkF _ (by simp; omega) z
  have c4 : ∀ z, catL false (.lst (A ++ [.lst q])) (.lst B) z = .ok r z := fun z => by rw [catE, hr]; exact mkF _ (by simp; omega) z
  obtain ⟨q1, hq1⟩ : ∃ q1, q1 = C ++ [x] := ⟨_, rfl⟩
  obtain ⟨q2, hq2⟩ : ∃ q2, q2 = A ++ [D.lst q] := ⟨_, rfl⟩
  rw [← hq1] at c1 c2
  rw [← hq2] at c3 c4
  simp [-mkL_val, eSl, sA, sC, i, e, sE, sB, k1, c1, c2, k2, c3, c4]
end
theorem drop_map {α β : Type} (f : α → β) (l : List α) (n : Nat) : (l.map f).drop n = (l.drop n).map f := by rw [List.map_drop]
theorem changed {o : Option O} (h : BInv o) {R : List (List Rat)} {n : Nat} (hm : Mat n R) (h2 : 2 ≤ n) (h6 : n ≤ 6) : ∃ (R' : List (List Rat)) (o' : Option O), (∀ sr : Sto, f__law_changed [.ref 0, .lst (R.map fl)] (o :: sr) = .ok (.lst (R'.map fl)) (o' :: sr)) ∧ BInv o' ∧ Mat n R' := by
  obtain ⟨k, o1, e1, b1, k0, k1⟩ := draw h (L := (n : Nat)) (by omega) (by omega)
  obtain ⟨j, o2, e2, b2, j0, j1⟩ := draw b1 (L := (n : Nat)) (by omega) (by omega)
  obtain ⟨p, o3, e3, b3, p0, p1⟩ := draw b2 (L := 6) (by decide) (by decide)
  obtain ⟨kk, jj, hk, hj, e4⟩ := ch4 (m := .lst (R.map fl)) (p := p) k0 k1 j0 j1
  obtain ⟨a, ha⟩ : ∃ a : Nat, kk = (a : Nat) := ⟨kk.toNat, by omega⟩
  obtain ⟨b, hb⟩ : ∃ b : Nat, jj = (b : Nat) := ⟨jj.toNat, by omega⟩
  have hal : a < R.length := by rw [hm.len]; omega
  obtain ⟨r, hr⟩ : ∃ r, R[a]? = some r := ⟨_, List.getElem?_eq_getElem hal⟩
  have hrm : r ∈ R := List.mem_of_getElem? hr
  have rl := hm.sq r hrm
  obtain ⟨y, hy⟩ : ∃ y, r[b]? = some y := ⟨_, List.getElem?_eq_getElem (by omega)⟩
  have hym : y ∈ r := List.mem_of_getElem? hy
  obtain ⟨x, o4, e5, b4, hx, hxq⟩ := bent6 b3 (hm.bd r hrm y hym)
  have bx : Bd 1300 x := hx.up (by decide)
  have newl : (r.take b ++ [x] ++ r.drop (b + 1)).length = n := by
    rw [List.length_append, List.length_append, List.length_take, List.length_drop]
    simp
    omega
  have newb : BdL 1300 (r.take b ++ [x] ++ r.drop (b + 1)) := fun z hz => by
    rcases List.mem_append.mp hz with q | q
    · rcases List.mem_append.mp q with q | q
      · exact hm.bd r hrm z (List.mem_of_mem_take q)
      · rw [List.mem_singleton.mp q]; exact bx
    · exact hm.bd r hrm z (List.mem_of_mem_drop q)
  refine ⟨R.take a ++ [r.take b ++ [x] ++ r.drop (b + 1)] ++ R.drop (a + 1), o4, fun sr => ?_, b4, ?_, ?_, ?_, ?_⟩
  · have e4' := e4
    have sA := sl_to (ds := R.map fl) (k := a) (ki := kk) ha (by rw [List.length_map, hm.len]; omega) (o3 :: sr)
    have sB := sl_from (ds := R.map fl) (k := a + 1) (ki := kk + 1) (by omega) (by rw [List.length_map, hm.len]; omega) (o4 :: sr)
    have sC := sl_to (ds := r.map fr) (k := b) (ki := jj) hb (by rw [List.length_map, rl]; omega) (o3 :: sr)
    have sE := sl_from (ds := r.map fr) (k := b + 1) (ki := jj + 1) (by omega) (by rw [List.length_map, rl]; omega) (o4 :: sr)
    unfold f__law_changed
    refine def_rt rfl ?_ (by simp)
    show m__law_changed [some (.ref 0), some (.lst (R.map fl)), none, none, none, none, none] (o :: sr) = _
    refine (seq_nx (ch1 (Rlen R (n := (n : Nat)) (by rw [hm.len]) _))).trans ?_
    refine (seq_nx (ch2 (e1 sr) (e2 sr))).trans ?_
    refine (seq_nx (ch3 (e3 sr))).trans ?_
    refine (seq_nx (e4' _)).trans ?_
    refine (seq_nx (ch5 (Rix ha hr _))).trans ?_
    refine ch6 sA sC (fix hb hy _) (e5 sr) sE sB ?_ ?_ ?_
    · rw [← List.map_take, ← List.map_drop, ← List.map_take, ← List.map_drop, List.map_append, List.map_append]
      have : fl (r.take b ++ [x] ++ r.drop (b + 1)) = .lst ((r.take b).map fr ++ [fr x] ++ (r.drop (b + 1)).map fr) := by
        show D.lst ((r.take b ++ [x] ++ r.drop (b + 1)).map fr) = _
        rw [List.map_append, List.map_append]
        rfl
      show D.lst (_ ++ [fl (r.take b ++ [x] ++ r.drop (b + 1))] ++ _) = _
      rw [this]
    · rw [List.length_take, List.length_drop, List.length_map, hm.len]; omega
    · rw [List.length_take, List.length_drop, List.length_map, rl]; omega
  · rw [List.length_append, List.length_append, List.length_take, List.length_drop]
    simp
    have := hm.len
    omega
  · intro q hq
    rcases List.mem_append.mp hq with z | z
    · rcases List.mem_append.mp z with z | z
      · exact hm.sq q (List.mem_of_mem_take z)
      · rw [List.mem_singleton.mp z]; exact newl
    · exact hm.sq q (List.mem_of_mem_drop z)
  · intro q hq
    rcases List.mem_append.mp hq with z | z
    · rcases List.mem_append.mp z with z | z
      · exact hm.bd q (List.mem_of_mem_take z)
      · rw [List.mem_singleton.mp z]; exact newb
    · exact hm.bd q (List.mem_of_mem_drop z)
  · intro q hq
    cases a with
    | zero =>
      have hq' : r.take b ++ [x] ++ r.drop (b + 1) = q := by simpa using hq
      have qr := hm.top r hr
      rw [← hq']
      intro z hz
      rcases List.mem_append.mp hz with w | w
      · rcases List.mem_append.mp w with w | w
        · exact qr z (List.mem_of_mem_take w)
        · rw [List.mem_singleton.mp w]; exact hxq ⟨_, qr y hym⟩
      · exact qr z (List.mem_of_mem_drop w)
    | succ a =>
      refine hm.top q ?_
      cases R with
      | nil => simp at hal
      | cons r1 R1 => simpa using hq
end K10

set_option exponentiation.threshold 20000
set_option linter.all false
set_option maxRecDepth 100000
set_option maxHeartbeats 4000000
namespace K10
open PySem PySem.Spec PyProof.Rows L2 Sim
open PySem.PyData (strOk)
/-! ### the drawn things -/
theorem small_m {k : Int} {st s1 : Sto} (e : f__law_of [.ref 0, .lst ([2, 3, 4, 5, 3, 4, 5, 6, 4, 3].map .int)] st = .ok (.int k) s1) : m__law_small_size [some (.ref 0)] st = .rt (.int k) s1 := by
  simp only [List.map_cons, List.map_nil] at e
  unfold m__law_small_size
  have hl : (10 : Nat) ≤ line := by decide
  simp [e, hl]
theorem small_size {o : Option O} (h : BInv o) : ∃ (k : Int) (o' : Option O), (∀ sr : Sto, f__law_small_size [.ref 0] (o :: sr) = .ok (.int k) (o' :: sr)) ∧ BInv o' ∧ 2 ≤ k ∧ k ≤ 6 := by
  obtain ⟨k, hk, o1, e1, b1⟩ := of_ints h (ns := [2, 3, 4, 5, 3, 4, 5, 6, 4, 3]) (by simp) (by simp)
  refine ⟨k, o1, fun sr => ?_, b1, by simp at hk; omega, by simp at hk; omega⟩
  unfold f__law_small_size
  exact def_rt rfl (small_m (e1 sr)) (by simp)
abbrev rowE : Em := (eComp false [3] (iRange1 (aCons (eVar 1) aNil)) (gN 3) tTrue (eCall f__law_number (aCons (eVar 0) aNil) []))
theorem range_1 {k : Int} {n : Nat} {σ : Sl} {st : Sto} (h : σ[1]? = some (some (.int k))) (hk : k = (n : Nat)) (hn : n ≤ 900) : iRange1 (aCons (eVar 1) aNil) σ st = .ok (intsL 0 n) st := by
  have hb : big k = true := big_of (by omega) (by omega)
  have ht : k.toNat = n := by omega
  simp [h, hb, ht]
theorem row6 {o : Option O} (h : BInv o) {k : Int} {n : Nat} (hk : k = (n : Nat)) (hn : n ≤ 24) (z : D) : ∃ (ys : List Rat) (o' : Option O), (∀ sr : Sto, rowE [some (.ref 0), some (.int k), some z, none] (o :: sr) = .ok (fl ys) (o' :: sr)) ∧ BInv o' ∧ P6L ys ∧ ys.length = n := by
  obtain ⟨ys, o1, e1, b1, hy, hl⟩ := nums6 (i := 3) (σ := [some (.ref 0), some (.int k), some z, none]) rfl (by decide) n 0 o h
  exact ⟨ys, o1, fun sr => comp_of (range_1 rfl hk (by omega)) (e1 sr) (mkE ys (by omega) _), b1, hy, hl⟩
theorem rows6 {k : Int} {n : Nat} (hk : k = (n : Nat)) (hn : n ≤ 24) : ∀ (m : Nat) (lo : Int) (o : Option O), BInv o → ∃ (R : List (List Rat)) (o' : Option O), (∀ sr : Sto, compM (compF [2] (gN 2) tTrue rowE [some (.ref 0), some (.int k), none, none]) (intsL lo m) (o :: sr) = .ok (R.map fl) (o' :: sr)) ∧ BInv o' ∧ (∀ r ∈ R, P6L r ∧ r.length = n) ∧ R.length = m
  | 0, _, o, h => ⟨[], o, (fun _ => rfl), h, (fun x hx => by cases hx), rfl⟩
  | m + 1, lo, o, h => by
    obtain ⟨ys, o1, e1, b1, hy, yl⟩ := row6 h hk hn (.int lo)
    obtain ⟨R, o', e2, b2, hR, hl⟩ := rows6 hk hn m (lo + 1) o1 b1
    refine ⟨ys :: R, o', fun sr => ?_, b2, fun z hz => ?_, by simp [hl]⟩
    · rw [intsL_cons]
      unfold compM
      have e : compF [2] (gN 2) tTrue rowE [some (.ref 0), some (.int k), none, none] (.int lo) (o :: sr) = .ok (some (fl ys)) (o1 :: sr) := by
        rw [compF_1]
        show (match rowE [some (.ref 0), some (.int k), some (.int lo), none] (o :: sr) with
          | .ok y st3 => Res.ok (some y) st3
          | _ => .bad) = _
        rw [e1 sr]
      rw [e]
      simp only [e2 sr]
      rfl
    · rcases List.mem_cons.mp hz with rfl | q
      · exact ⟨hy, yl⟩
      · exact hR z q
theorem p6_mat {n : Nat} {R : List (List Rat)} (hR : ∀ r ∈ R, P6L r ∧ r.length = n) (hl : R.length = n) : Mat n R where
  len := hl
  sq := fun r hr => (hR r hr).2
  bd := fun r hr x hx => ((hR r hr).1 x hx).1.up (by decide)
  top := fun r hr x hx => ((hR r (List.mem_of_getElem? hr)).1 x hx).2.mono (by decide)
theorem mkR {R : List (List Rat)} (h : R.length ≤ 900) (st : Sto) : mkL false (R.map fl) st = .ok (.lst (R.map fl)) st := mkF _ (by rw [List.length_map]; omega) st
theorem free {o : Option O} (h : BInv o) {k : Int} {n : Nat} (hk : k = (n : Nat)) (hn : n ≤ 24) : ∃ (R : List (List Rat)) (o' : Option O), (∀ sr : Sto, f__law_free [.ref 0, .int k] (o :: sr) = .ok (.lst (R.map fl)) (o' :: sr)) ∧ BInv o' ∧ (∀ r ∈ R, P6L r ∧ r.length = n) ∧ R.length = n := by
  obtain ⟨R, o', e, b, hR, hl⟩ := rows6 hk hn n 0 o h
  refine ⟨R, o', fun sr => ?_, b, hR, hl⟩
  unfold f__law_free
  refine def_rt rfl ?_ (by simp)
  show m__law_free [some (.ref 0), some (.int k), none, none] (o :: sr) = _
  unfold m__law_free
  have c : eComp false [2] (iRange1 (aCons (eVar 1) aNil)) (gN 2) tTrue rowE [some (.ref 0), some (.int k), none, none] (o :: sr) = .ok (.lst (R.map fl)) (o' :: sr) := comp_of (range_1 rfl hk (by omega)) (e sr) (mkR (by omega) _)
  unfold sRet
  rw [c]
  rfl
end K10

set_option exponentiation.threshold 20000
set_option linter.all false
set_option maxRecDepth 100000
set_option maxHeartbeats 4000000
namespace K10
open PySem PySem.Spec PyProof.Rows L2 Sim
open PySem.PyData (strOk)
/-! ### the law -/
section
variable {x y z a m w k : D} {st s1 s2 s3 s4 : Sto} {y2 y3 y4 y5 y6 y7 : Option D}
theorem lb1 (e : f__law_small_size [.ref 0] st = .ok k s1) : (sSet 3 (eCall f__law_small_size (aCons (eVar 1) aNil) [])) [some x, some (.ref 0), y2, y3, y4, y5, y6, y7] st = .nx [some x, some (.ref 0), y2, some k, y4, y5, y6, y7] s1 := by
  simp [e]
theorem lb2 (e : f__law_step [.ref 0, k] st = .ok a s1) : (sSet 4 (eCall f__law_step (aCons (eVar 1) (aCons (eVar 3) aNil)) [])) [some x, some (.ref 0), y2, some k, y4, y5, y6, y7] st = .nx [some x, some (.ref 0), y2, some k, some a, y5, y6, y7] s1 := by
  simp [e]
theorem lb3 {me : Em} {u t : D} (e1 : me [some x, some (.ref 0), y2, some k, some a, y5, y6, y7] st = .ok u st) (e2 : f_table_of [u] st = .ok t st) (io : insOf "Table" "lines" t st = true) (e3 : f_Table_lines [t] st = .ok m st) : (sSet 5 (eMeth "Table" "lines" f_Table_lines (eCall f_table_of (aCons me aNil) []) aNil)) [some x, some (.ref 0), y2, some k, some a, y5, y6, y7] st = .nx [some x, some (.ref 0), y2, some k, some a, some m, y6, y7] st := by
  simp [eMeth, e1, e2, io, e3]
theorem lb4 (e1 : f__law_table [a] st = .ok m st) (l : f__law_like 6 [m, m] st = .ok (.bl true) st) (s : f__law_so [m] st = .ok (.bl true) st) : (sIf (tOr (Sim.tNot (tOf (eCall (f__law_like 6) (aCons (eVar 5) (aCons (eCall f__law_table (aCons (eVar 4) aNil) []) aNil)) []))) (Sim.tNot (tOf (eCall f__law_so (aCons (eVar 5) aNil) [])))) (sRet (eC (.bl false))) sNil) [some x, some (.ref 0), y2, some k, some a, some m, y6, y7] st = .nx [some x, some (.ref 0), y2, some k, some a, some m, y6, y7] st := by
  simp [e1, l, s]
theorem tb1 (e : f__law_changed [.ref 0, m] st = .ok w s1) : (sSet 7 (eCall f__law_changed (aCons (eVar 1) (aCons (eVar 5) aNil)) [])) [some x, some (.ref 0), y2, y3, y4, some m, y6, y7] st = .nx [some x, some (.ref 0), y2, y3, y4, some m, y6, some w] s1 := by
  simp [e]
theorem tb2a {p : Int} (e1 : f__law_draw [.ref 0, .int 3] st = .ok (.int p) s1) (c : p = 0) (e : f__law_changed [.ref 0, w] s1 = .ok z s2) : (sIf (tOf (eBin eqD (eCall f__law_draw (aCons (eVar 1) (aCons (eC (.int 3)) aNil)) []) (eC (.int 0)))) (sSet 7 (eCall f__law_changed (aCons (eVar 1) (aCons (eVar 7) aNil)) [])) sNil) [some x, some (.ref 0), y2, y3, y4, y5, y6, some w] st = .nx [some x, some (.ref 0), y2, y3, y4, y5, y6, some z] s2 := by
  simp [e1, eqD_int, decide_eq_true c, e]
theorem tb2b {p : Int} {b : Sm} (e1 : f__law_draw [.ref 0, .int 3] st = .ok (.int p) s1) (c : ¬ p = 0) : (sIf (tOf (eBin eqD (eCall f__law_draw (aCons (eVar 1) (aCons (eC (.int 3)) aNil)) []) (eC (.int 0)))) b sNil) [some x, some (.ref 0), y2, y3, y4, y5, y6, some w] st = .nx [some x, some (.ref 0), y2, y3, y4, y5, y6, some w] s1 := by
  simp [e1, eqD_int, decide_eq_false c]
theorem tb3 (s : f__law_so [w] st = .ok (.bl true) st) : (sIf (Sim.tNot (tOf (eCall f__law_so (aCons (eVar 7) aNil) []))) (sRet (eC (.bl false))) sNil) [some x, some (.ref 0), y2, y3, y4, y5, y6, some w] st = .nx [some x, some (.ref 0), y2, y3, y4, y5, y6, some w] st := by
  simp [s]
theorem lb5 (e : f__law_free [.ref 0, k] st = .ok w s1) : (sSet 7 (eCall f__law_free (aCons (eVar 1) (aCons (eVar 3) aNil)) [])) [some x, some (.ref 0), y2, some k, y4, y5, y6, y7] st = .nx [some x, some (.ref 0), y2, some k, y4, y5, y6, some w] s1 := by
  simp [e]
theorem lb6a {p : Int} {ds : List D} (e1 : f__law_draw [.ref 0, .int 2] st = .ok (.int p) s1) (c : p = 0) (l : listD false [a] s1 = .ok a s1) (s : slD false w (some 1) none s1 = .ok (.lst ds) s1) (hd : ds.length ≤ 1000) : (sIf (tOf (eBin eqD (eCall f__law_draw (aCons (eVar 1) (aCons (eC (.int 2)) aNil)) []) (eC (.int 0)))) (sSet 7 (eBin (catL false) (eLst false (aCons (eCB (listD false) (aCons (eVar 4) aNil)) aNil)) (eSl false (eVar 7) (pSome (eC (.int 1))) pNone))) sNil) [some x, some (.ref 0), y2, y3, some a, y5, y6, some w] st = .nx [some x, some (.ref 0), y2, y3, some a, y5, y6, some (.lst (a :: ds))] s1 := by
  have k1 : mkL false [a] s1 = .ok (.lst [a]) s1 := mkF _ (by simp) s1
  have k2 : catL false (.lst [a]) (.lst ds) s1 = .ok (.lst (a :: ds)) s1 := by rw [catE]; exact mkF _ (by simp; omega) s1
  simp [-mkL_val, e1, eqD_int, decide_eq_true c, eSl, l, s, k1, k2]
theorem lb6b {p : Int} {b : Sm} (e1 : f__law_draw [.ref 0, .int 2] st = .ok (.int p) s1) (c : ¬ p = 0) : (sIf (tOf (eBin eqD (eCall f__law_draw (aCons (eVar 1) (aCons (eC (.int 2)) aNil)) []) (eC (.int 0)))) b sNil) [some x, some (.ref 0), y2, y3, y4, y5, y6, some w] st = .nx [some x, some (.ref 0), y2, y3, y4, y5, y6, some w] s1 := by
  simp [e1, eqD_int, decide_eq_false c]
end
abbrev trnB : Sm := (sSeq (sSet 7 (eCall f__law_changed (aCons (eVar 1) (aCons (eVar 5) aNil)) [])) (sSeq (sIf (tOf (eBin eqD (eCall f__law_draw (aCons (eVar 1) (aCons (eC (.int 3)) aNil)) []) (eC (.int 0)))) (sSet 7 (eCall f__law_changed (aCons (eVar 1) (aCons (eVar 7) aNil)) [])) sNil) (sIf (Sim.tNot (tOf (eCall f__law_so (aCons (eVar 7) aNil) []))) (sRet (eC (.bl false))) sNil)))
abbrev lapB : Sm := (sSeq (sSet 3 (eCall f__law_small_size (aCons (eVar 1) aNil) [])) (sSeq (sSet 4 (eCall f__law_step (aCons (eVar 1) (aCons (eVar 3) aNil)) [])) (sSeq (sSet 5 (eMeth "Table" "lines" f_Table_lines (eCall f_table_of (aCons (mkSt (aCons (eVar 4) aNil)) aNil) []) aNil)) (sSeq (sIf (tOr (Sim.tNot (tOf (eCall (f__law_like 6) (aCons (eVar 5) (aCons (eCall f__law_table (aCons (eVar 4) aNil) []) aNil)) []))) (Sim.tNot (tOf (eCall f__law_so (aCons (eVar 5) aNil) [])))) (sRet (eC (.bl false))) sNil) (sSeq (sFor (iRange1 (aCons (eC (.int 3)) aNil)) (gN 6) trnB) (sSeq (sSet 7 (eCall f__law_free (aCons (eVar 1) (aCons (eVar 3) aNil)) [])) (sSeq (sIf (tOf (eBin eqD (eCall f__law_draw (aCons (eVar 1) (aCons (eC (.int 2)) aNil)) []) (eC (.int 0)))) (sSet 7 (eBin (catL false) (eLst false (aCons (eCB (listD false) (aCons (eVar 4) aNil)) aNil)) (eSl false (eVar 7) (pSome (eC (.int 1))) pNone))) sNil) (sIf (Sim.tNot (tOf (eCall f__law_so (aCons (eVar 7) aNil) []))) (sRet (eC (.bl false))) sNil))))))))
theorem law_eq : m_law = (sSeq (sSet 1 (eCall f__law_bag (aCons (eVar 0) aNil) [])) (sSeq (sFor (iRange1 (aCons (eC (.int 2)) aNil)) (gN 2) lapB) (sRet (eC (.bl true))))) := rfl
theorem mat_so {n : Nat} {R : List (List Rat)} (hm : Mat n R) (h2 : 2 ≤ n) (h6 : n ≤ 6) {st : Sto} (hs : NoR st) : f__law_so [.lst (R.map fl)] st = .ok (.bl true) st := by
  have hl := hm.len
  obtain ⟨r, hr⟩ : ∃ r, R[0]? = some r := ⟨_, List.getElem?_eq_getElem (by omega)⟩
  exact law_so hr (fun q hq => by rw [hm.sq q hq, hl]) (by omega) (by omega) (hm.top r hr) hs
theorem turn {o : Option O} (h : BInv o) {n : Nat} {R : List (List Rat)} (hm : Mat n R) (h2 : 2 ≤ n) (h6 : n ≤ 6) (x : D) (y2 y3 y4 y6 y7 : Option D) : ∃ (z7 : Option D) (o' : Option O), trnB [some x, some (.ref 0), y2, y3, y4, some (.lst (R.map fl)), y6, y7] [o] = .nx [some x, some (.ref 0), y2, y3, y4, some (.lst (R.map fl)), y6, z7] [o'] ∧ BInv o' := by
  obtain ⟨R1, o1, e1, b1, m1⟩ := changed h hm h2 h6
  obtain ⟨p, o2, e2, b2, p0, p1⟩ := draw b1 (L := 3) (by decide) (by decide)
  by_cases c : p = 0
  · obtain ⟨R2, o3, e3, b3, m2⟩ := changed b2 m1 h2 h6
    exact ⟨_, o3, (seq_nx (tb1 (e1 []))).trans ((seq_nx (tb2a (e2 []) c (e3 []))).trans (tb3 (mat_so m2 h2 h6 (nr_bag b3)))), b3⟩
  · exact ⟨_, o2, (seq_nx (tb1 (e1 []))).trans ((seq_nx (tb2b (e2 []) c)).trans (tb3 (mat_so m1 h2 h6 (nr_bag b2)))), b2⟩
theorem turns {n : Nat} {R : List (List Rat)} (hm : Mat n R) (h2 : 2 ≤ n) (h6 : n ≤ 6) (x : D) (y2 y3 y4 : Option D) : ∀ (l : List D) (y6 y7 : Option D) (o : Option O), BInv o → ∃ (z6 z7 : Option D) (o' : Option O), Sim.forM (inTurn (gN 6) trnB) l [some x, some (.ref 0), y2, y3, y4, some (.lst (R.map fl)), y6, y7] [o] = .nx [some x, some (.ref 0), y2, y3, y4, some (.lst (R.map fl)), z6, z7] [o'] ∧ BInv o'
  | [], y6, y7, o, h => ⟨y6, y7, o, rfl, h⟩
  | d :: l, y6, y7, o, h => by
    obtain ⟨a7, o1, e1, h1⟩ := turn h hm h2 h6 x y2 y3 y4 (some d) y7
    obtain ⟨z6, z7, o', e2, h2'⟩ := turns hm h2 h6 x y2 y3 y4 l (some d) a7 o1 h1
    refine ⟨z6, z7, o', ?_, h2'⟩
    rw [← e2, forM_c]
    have hi : inTurn (gN 6) trnB d [some x, some (.ref 0), y2, y3, y4, some (.lst (R.map fl)), y6, y7] [o] = trnB [some x, some (.ref 0), y2, y3, y4, some (.lst (R.map fl)), some d, y7] [o] := rfl
    rw [hi, e1]
theorem for3 {b : Sm} {σ σ' : Sl} {st st' : Sto} (e : Sim.forM (inTurn (gN 6) b) (intsL 0 3) σ st = .nx σ' st') : sFor (iRange1 (aCons (eC (.int 3)) aNil)) (gN 6) b σ st = .nx σ' st' := by
  have b3 : big 3 = true := by decide
  simp [b3, e]
theorem lap {o : Option O} (h : BInv o) (x : D) (y2 y3 y4 y5 y6 y7 : Option D) : ∃ (z3 z4 z5 z6 z7 : Option D) (o' : Option O), lapB [some x, some (.ref 0), y2, y3, y4, y5, y6, y7] [o] = .nx [some x, some (.ref 0), y2, z3, z4, z5, z6, z7] [o'] ∧ BInv o' := by
  obtain ⟨k, o1, e1, b1, k2, k6⟩ := small_size h
  obtain ⟨n, hn⟩ : ∃ n : Nat, k = ((n + 1 : Nat) : Int) := ⟨(k - 1).toNat, by omega⟩
  obtain ⟨xs, o2, e2, b2, hx, xl⟩ := step6 b1 (n := n) hn (by omega)
  have x2 : 2 ≤ xs.length := by omega
  have x6 : xs.length ≤ 6 := by omega
  have hq : QL xs := fun y hy => (hx y hy).2.mono (by decide)
  have s2 := nr_bag b2
  have hm : Mat xs.length (tb xs) := ⟨tb_len xs, fun r hr => tb_mem hr, tb_bd hq x6, fun r hr => by
    have e : r = xs := by
      have q : (tb xs)[0]? = some xs := by
        unfold tb
        rw [rowsG_get _ _ _ 0 (by omega), Nat.zero_add, pr_0]
        rfl
      rw [q] at hr
      exact (Option.some.inj hr).symm
    rw [e]
    exact hq⟩
  have tl := t_lines (R := tb xs) (by rw [tb_len]; omega) (fun r hr => by rw [tb_mem hr]; omega) [o2]
  have hl := like (pl_fls (tb xs) (by rw [tb_len]; omega) (fun r hr => by rw [tb_mem hr]; omega)) 6 [o2] (by decide)
  obtain ⟨z6, z7, o3, e3, b3⟩ := turns hm x2 x6 x y2 (some (.int k)) (some (fl xs)) (intsL 0 3) y6 y7 o2 b2
  obtain ⟨R, o4, e4, b4, hR, Rl⟩ := free b3 (k := k) (n := n + 1) hn (by omega)
  obtain ⟨p, o5, e5, b5, p0, p1⟩ := draw b4 (L := 2) (by decide) (by decide)
  have s5 := nr_bag b5
  have hmR := p6_mat hR Rl
  by_cases c : p = 0
  · have hs := sl_from (ds := R.map fl) (k := 1) (ki := 1) rfl (by rw [List.length_map]; omega) [o5]
    rw [← List.map_drop] at hs
    have hmW : Mat (n + 1) (xs :: R.drop 1) := p6_mat (fun r hr => by
      rcases List.mem_cons.mp hr with rfl | q
      · exact ⟨hx, xl⟩
      · exact hR r (List.mem_of_mem_drop q)) (by rw [List.length_cons, List.length_drop]; omega)
    refine ⟨some (.int k), some (fl xs), some (.lst ((tb xs).map fl)), z6, some (.lst (fl xs :: (R.drop 1).map fl)), o5, ?_, b5⟩
    refine (seq_nx (lb1 (e1 []))).trans ?_
    refine (seq_nx (lb2 (e2 []))).trans ?_
    refine (seq_nx (lb3 (mk_st (row_arg rfl) (sx_lst _ _) x2 (by omega) s2) (table_of hq x2 x6 s2) (io_tb _ _ "lines" (.inl rfl)) tl)).trans ?_
    refine (seq_nx (lb4 (law_table hq (by omega) x6 s2) hl (mat_so hm x2 x6 s2))).trans ?_
    refine (seq_nx (for3 e3)).trans ?_
    refine (seq_nx (lb5 (e4 []))).trans ?_
    refine (seq_nx (lb6a (e5 []) c (li_list xs (by omega) _) hs (by rw [List.length_map, List.length_drop]; omega))).trans ?_
    exact tb3 (mat_so hmW (by omega) (by omega) s5)
  · refine ⟨some (.int k), some (fl xs), some (.lst ((tb xs).map fl)), z6, some (.lst (R.map fl)), o5, ?_, b5⟩
    refine (seq_nx (lb1 (e1 []))).trans ?_
    refine (seq_nx (lb2 (e2 []))).trans ?_
    refine (seq_nx (lb3 (mk_st (row_arg rfl) (sx_lst _ _) x2 (by omega) s2) (table_of hq x2 x6 s2) (io_tb _ _ "lines" (.inl rfl)) tl)).trans ?_
    refine (seq_nx (lb4 (law_table hq (by omega) x6 s2) hl (mat_so hm x2 x6 s2))).trans ?_
    refine (seq_nx (for3 e3)).trans ?_
    refine (seq_nx (lb5 (e4 []))).trans ?_
    refine (seq_nx (lb6b (e5 []) c)).trans ?_
    exact tb3 (mat_so hmR (by omega) (by omega) s5)
theorem laps : ∀ (l : List D) (x : D) (y2 y3 y4 y5 y6 y7 : Option D) (o : Option O), BInv o → ∃ (z2 z3 z4 z5 z6 z7 : Option D) (o' : Option O), Sim.forM (inTurn (gN 2) lapB) l [some x, some (.ref 0), y2, y3, y4, y5, y6, y7] [o] = .nx [some x, some (.ref 0), z2, z3, z4, z5, z6, z7] [o'] ∧ BInv o'
  | [], x, y2, y3, y4, y5, y6, y7, o, h => ⟨y2, y3, y4, y5, y6, y7, o, rfl, h⟩
  | d :: l, x, y2, y3, y4, y5, y6, y7, o, h => by
    obtain ⟨a3, a4, a5, a6, a7, o1, e1, h1⟩ := lap h x (some d) y3 y4 y5 y6 y7
    obtain ⟨z2, z3, z4, z5, z6, z7, o', e2, h2⟩ := laps l x (some d) a3 a4 a5 a6 a7 o1 h1
    refine ⟨z2, z3, z4, z5, z6, z7, o', ?_, h2⟩
    rw [← e2, forM_c]
    have hi : inTurn (gN 2) lapB d [some x, some (.ref 0), y2, y3, y4, y5, y6, y7] [o] = lapB [some x, some (.ref 0), some d, y3, y4, y5, y6, y7] [o] := rfl
    rw [hi, e1]
theorem law_true (ns : List Int) (hn : ns.length ≤ 63) (x : D) (hx : x = .scr (ns.map D.int) ∨ x = .lst (ns.map D.int)) : ∃ st, f_law [x] [] = .ok (.bl true) st := by
  obtain ⟨o, e, h⟩ := bag ns hn x hx
  obtain ⟨z2, z3, z4, z5, z6, z7, o', e2, h2⟩ := laps (intsL 0 2) x none none none none none none o h
  have fin : ∃ st, finR 0 (.bl true) [o'] = .ok (.bl true) st := by
    unfold finR
    rw [if_neg (by simp)]
    split
    · exact ⟨_, rfl⟩
    · exact ⟨_, rfl⟩
  obtain ⟨st, ef⟩ := fin
  refine ⟨st, ?_⟩
  have b2' : big 2 = true := by decide
  have z : f_law [x] [] = (match m_law [some x, none, none, none, none, none, none, none] [] with
    | .nx _ st' => finR 0 .non st'
    | .rt d st' => finR 0 d st'
    | .exc x _ st' => finX 0 x st'
    | _ => .bad) := rfl
  rw [z]
  have m : m_law [some x, none, none, none, none, none, none, none] [] = .rt (.bl true) [o'] := by
    rw [law_eq]
    generalize lapB = lb at e2
    simp [e, b2', e2]
  rw [m]
  exact ef
end K10

set_option linter.all false
set_option maxRecDepth 100000
set_option maxHeartbeats 4000000
namespace K10
open PySem PySem.Spec PyProof.Rows L2 Sim
theorem reps_ints {K : Frag} {w : Wd} : ∀ ns : List Int, Reps K w (ns.map V.int) (ns.map D.int)
  | [] => .nil
  | n :: ns => .cons (.int n) (reps_ints ns)
def csT (K : Frag) : List (Addr × Addr) := tf.map (He.cT K)
theorem mem_cs {K : Frag} {p : Addr × Addr} (h : p ∈ csT K) : ∃ q ∈ tf, He.cT K q = p := List.mem_map.mp h
theorem cs_mem {K : Frag} {x : Str} (h : x ∈ tabN) : He.cT K (x, none) ∈ csT K := by
  refine List.mem_map_of_mem (f := He.cT K) ?_
  have : ∀ x ∈ tabN, (x, none) ∈ tf := by decide +kernel
  exact this x h
theorem tabs0 {K : Frag} {H : Hp} (h : ∀ p ∈ csT K, H p.2 = some (.tbl #[])) : LamX.Tabs (tabT K) H := fun p hp => by
  obtain ⟨x, hx, rfl⟩ := List.mem_map.mp hp
  exact LamX.TabS.nil (h _ (cs_mem hx))
theorem script_rep {K : Frag} {H : Hp} {a : Addr} {ns : List Int} (t : LamX.Tabs (tabT K) H) (hS : SqL K H a (ns.map V.int)) : ∃ (w : Wd) (x : D), w.H = H ∧ w.st = [] ∧ Ok K w ∧ Rep K w (.ref a) x ∧ (x = .scr (ns.map D.int) ∨ x = .lst (ns.map D.int)) := by
  have ok : Ok K ⟨[], [], H, []⟩ := ⟨rfl, List.nodup_nil, fun _ h => (nomatch h), fun _ h => (nomatch h), fun n a o h => by simp at h, t⟩
  have nl : ∀ b, ¬ Live ⟨[], [], H, []⟩ b := fun b ⟨n, o, h, _⟩ => by simp at h
  rcases hS with h | h
  · rcases h with h | ⟨o, h⟩
    · exact ⟨_, _, rfl, rfl, ok, .lst h (nl a) (by simp) (reps_ints ns), .inr rfl⟩
    · exact ⟨_, _, rfl, rfl, ok, .scr h (nl a) (by simp) (reps_ints ns), .inl rfl⟩
  · obtain ⟨o, its, n, h1, h2, h3⟩ := h
    exact ⟨_, _, rfl, rfl, ok, .kscr (fun H' => .inr ⟨o, its, n, h1, h2, h3⟩) ⟨o, h1, h2⟩ (reps_ints ns), .inl rfl⟩
theorem promise {K : Frag} {H : Hp} {a : Addr} {ns : List Int} (hn : ns.length ≤ 63) (t : ∀ p ∈ csT K, H p.2 = some (.tbl #[])) (hS : SqL K H a (ns.map V.int)) : spM K 1 f_law [.ref a] H (fun v _ => v = .bl true) (fun _ _ _ => False) := by
  obtain ⟨w, x, rfl, h2, ok, r, hx⟩ := script_rep (tabs0 t) hS
  obtain ⟨st, e⟩ := law_true ns hn x hx
  refine ⟨w, [x], rfl, ok, .cons r .nil, rfl, ?_⟩
  rw [h2, e]
  intro b mu H s o r
  cases r
  rfl
theorem facts {P : Program} {w : World} {K : Frag} {h : Heap} {mg : Str → Option Value} {f : Addr} (X : K.In h) (G : h.Ns mainGlobals mg) (hfa : mg ("law" : Str) = some (.ref f)) (c : SaysS fa fn xs tf h K) :
    ∃ fd : FuncData, (∀ (s : Shared) (v : Value), BindsTo s fd ⟨[v], []⟩ [("_law_script", v)]) ∧ ∀ base : Heap, K.In base → base.Ns mainGlobals mg → (∀ p ∈ csT K, LamX.TabB base mg p.1 p.2) → FnOk P w K mg base (CXp P w) 11 f fd ["_law_script"] (spM K 1 f_law) := by
  obtain ⟨fd, F⟩ := c.d.def_ D_law rfl
  have e : mg ("law" : Str) = some (.ref (He.ga K "law")) := by
    have a := (He.ba (show ((fa.all fun f => f.ok K) && fn.all fun d => d.ok K) = true from congrArg (fun z : He.AlD => z.1) c.d)).1
    exact He.glo_ok X G (List.all_eq_true.mp a _ (List.mem_append_left _ (List.mem_map_of_mem (show ("law" : Str) ∈ gnames by decide +kernel))))
  have e := hfa.symm.trans e
  cases e
  have b := FunD.bindsA (ps := ["_law_script"]) F fun _ _ _ _ _ _ us hl => match us, hl with | [_], _ => rfl
  exact ⟨fd, fun s v => b s [v] rfl, fun base _ _ t => fk_law (ev_of X G c fun x hx => t _ (cs_mem hx)) F⟩
end K10
open PySem PySem.W PySem.Calls PyProof.Rows
theorem PySem.Challenge.cw_creepclocks_k10_tables_spoilt_holds : PySem.Challenge.rw_creepclocks_k10_tables_spoilt.Holds := by
  w_on; o_law
  refine HandSHeadRun.head_imp (r := OpenLaw.row PySem.Challenge.rw_creepclocks_k10_tables_spoilt) (q := K10.qv) (H := K10.hk) (ob := K10.ob) (M := 10000) (loose := K10.hnames) (d := HandSHeadRun.topDef (OpenLaw.row PySem.Challenge.rw_creepclocks_k10_tables_spoilt).prog 82) (kwd := []) K10.ob_eq
    K10.run (by kernel_rfl) (by kernel_rfl) (by kernel_rfl) (by rfl) (by first | assumption | decide +kernel) (by decide +kernel) ⟨rfl, rfl, rfl, rfl, rfl, by decide +kernel⟩ ?hw ?hc
  case hw => w_witness2
  case hc =>
    refine LamX.walk_ofTsE (l := PySem.Challenge.rw_creepclocks_k10_tables_spoilt) (n := 63) (k := 11) (x := "_law_script") (CX := fun w => L2.CX PySem.Challenge.rw_creepclocks_k10_tables_spoilt.prog w) rfl (by decide) (by kernel_rfl) ⟨rfl, by decide, by decide⟩ ?F ?X
    · intro w mg fa h Y G hmg0
      obtain ⟨K, KX, c⟩ := Y
      have hmg : mg ("law" : PySem.Str) = some (.ref fa) := by
        have e : (HandSHeadRun.topDef (OpenLaw.row PySem.Challenge.rw_creepclocks_k10_tables_spoilt).prog 82).name = ("law" : PySem.Str) := by kernel_rfl
        rw [← e]
        exact hmg0
      obtain ⟨fd, hb, hF⟩ := K10.facts (P := (PySem.Challenge.rw_creepclocks_k10_tables_spoilt).prog) (w := w) KX G hmg c
      refine ⟨K, KX, fd, K10.csT K, Sim.spM K 1 K10.f_law, fun p hp => ?_, fun p hp => ?_, fun p hp => ?_, hb, fun H a ns hl _ ht hS => K10.promise hl ht hS, fun base hK hG ht => hF base hK hG ht⟩
      · obtain ⟨q, hq, rfl⟩ := K10.mem_cs hp
        exact c.empty q hq
      · obtain ⟨q, hq, rfl⟩ := K10.mem_cs hp
        exact c.out q hq
      · obtain ⟨q, hq, rfl⟩ := K10.mem_cs hp
        exact PySem.W.codeHd_of_K KX (c.hd q hq)
    · intro w H s e s' h
      obtain ⟨_, _, _, _, _, _, _, _, _, _, _, _, f⟩ := h
      exact f
