import PyProof.Rows.All
import Wide.All
import OpenK.AllK
import Wide.FinOn
import HandS.ForMost
import HandS.ForExc
import HandS.TupAny
import KE.KExcSuper
import PyProof.Rows.FactsExc_KeyError
import PyProof.ExcBaseAll.OverflowError
import PyProof.ExcBaseAll.LookupError
import HandS.ExcSuper
import HandS.Defaults
import HandS.HeadHook2
import HandS.Property
import HandS.IsInst
import HandS.DictComp
import HandS.OwnEq
import HandS.More
import HandS.Wide
import HandS.Walk
import HandS.Style
import HandS.TryOnly
import HandS.Deep
import HandS.MakeKwOnly
import PySem.Challenge.RW_pulleyworks_k73_whole_workshops
import PyProof.ListStr
import HandS.ExcField
import HandS.Head0
import HandS.Head1
import HandS.Head2
import HandS.HeadEnd
import HandS.HeadHook1
import KE.KStateDown
set_option Elab.async false
set_option linter.all false
set_option maxRecDepth 100000
set_option maxHeartbeats 0
/-! The top run in the kernel, and what is seen of it. Printed by gen_head.py. -/
namespace K7
open PySem PySem.Spec PyProof.Rows L2
abbrev ga := He.ga
abbrev ma := He.ma
def top (i : Nat) : Stmt := PySem.Challenge.pw_pulleyworks_k73_whole_workshops.main.body.getD i (.Pass ⟨0, 0, 0, 0⟩)
abbrev s_is_integer : Stmt := top 12
abbrev s_common_divisor : Stmt := top 13
abbrev s_is_fraction : Stmt := top 15
abbrev s_is_load : Stmt := top 16
abbrev s_is_word : Stmt := top 27
abbrev s_is_name : Stmt := top 28
abbrev s_are_hooks : Stmt := top 29
abbrev s_are_anchors : Stmt := top 30
abbrev s_is_path : Stmt := top 31
abbrev s_is_rope : Stmt := top 32
abbrev s_ordered : Stmt := top 33
abbrev s_check_known : Stmt := top 34
abbrev s_check_size : Stmt := top 35
abbrev s_Work_init : Stmt := inClass (top 37) 0
abbrev s_Work_points : Stmt := inClass (top 37) 4
abbrev s_Work_with_load : Stmt := inClass (top 37) 11
abbrev s_Work_with_rope : Stmt := inClass (top 37) 12
abbrev s_Work_without_rope : Stmt := inClass (top 37) 13
abbrev s_Work_eq : Stmt := inClass (top 37) 18
abbrev s_check_work : Stmt := top 38
abbrev s_applied : Stmt := top 41
abbrev s_Workshop_init : Stmt := inClass (top 42) 0
abbrev s_Workshop_names : Stmt := inClass (top 42) 1
abbrev s_Workshop_entries : Stmt := inClass (top 42) 2
abbrev s_Workshop_check : Stmt := inClass (top 42) 3
abbrev s_Workshop_record : Stmt := inClass (top 42) 4
abbrev s_Workshop_set_load : Stmt := inClass (top 42) 5
abbrev s_Workshop_set_rope : Stmt := inClass (top 42) 6
abbrev s_Workshop_drop_rope : Stmt := inClass (top 42) 7
abbrev s_Workshop_undo : Stmt := inClass (top 42) 8
abbrev s_Workshop_work : Stmt := inClass (top 42) 9
abbrev s_Workshop_len : Stmt := inClass (top 42) 13
abbrev s_law_pool : Stmt := top 44
abbrev s_law_draw : Stmt := top 45
abbrev s_law_gcd : Stmt := top 46
abbrev s_law_made : Stmt := top 47
abbrev s_law_add : Stmt := top 48
abbrev s_law_mul : Stmt := top 49
abbrev s_law_sum : Stmt := top 50
abbrev s_law_number : Stmt := top 51
abbrev s_law_signed : Stmt := top 52
abbrev s_law_path : Stmt := top 53
abbrev s_law_coefficient : Stmt := top 54
abbrev s_law_carried : Stmt := top 55
abbrev s_law_given : Stmt := top 56
abbrev s_law_built : Stmt := top 57
abbrev s_law_add_rope : Stmt := top 58
abbrev s_law_entry : Stmt := top 59
abbrev s_law_path_holds : Stmt := top 60
abbrev s_law_due : Stmt := top 61
abbrev s_law_made_entry : Stmt := top 62
abbrev s_law_undone : Stmt := top 63
abbrev s_law_done : Stmt := top 64
abbrev s_law_shows : Stmt := top 65
abbrev s_law : Stmt := top 66
def exNames : List Str := ["UnknownName", "InvalidNumber", "InvalidName", "InvalidRope", "LimitExceeded", "NothingToUndo"]
structure DefM where
  at_ : PySem.W.Frag → Addr
  name : Str
  qual : Str
  st : Stmt
  kwd : List (Str × V)
def fnWa (K : PySem.W.Frag) (a : Addr) : He.FnW := match K.lookup a with
  | some ⟨_, _, .func fd, _⟩ => some (fd.name, fd.qualname, fd.params, fd.body, fd.scope, fd.globals, fd.closure, fd.builtins)
  | _ => none
def DefM.val (d : DefM) : He.FnW := some (d.name, d.qual, defArgs d.st, .stmts (defBody d.st), defScope d.st, mainGlobals, [], builtinsNs)
def DefM.ok (K : PySem.W.Frag) (d : DefM) : Bool := PySem.W.keepIn K (.ref (d.at_ K)) && (match K.lookup (d.at_ K) with
  | some ⟨_, _, .func fd, _⟩ => PySem.W.codeIn K fd.code d.qual && (He.dflB K fd.defaults [] && He.kwdB K fd.kwdefaults d.kwd)
  | _ => false)
def pgA (K : PySem.W.Frag) (p : Addr) : Addr := match PySem.W.recIn K p "property" with
  | some (.ref g :: _) => g
  | _ => 0
def propB (K : PySem.W.Frag) (c f : Str) : Bool := He.eqO (PySem.W.findIn K (.ref (ga K c)) f) (some (some (.ref (ma K (ga K c) f)))) && (He.eqO (PySem.W.specialIn K (.ref (ma K (ga K c) f)) "__get__") (some (some (.builtin "property.__get__"))) &&
  (decide (PySem.W.takesIn K (.ref (ma K (ga K c) f)) = some true) && (match PySem.W.recIn K (ma K (ga K c) f) "property" with
    | some (.ref _ :: _) => true
    | _ => false)))
abbrev XW : Type := Option (Str × Str × Arguments × FuncBody × Scope × Addr × List Str × Addr)
def xWa (K : PySem.W.Frag) (a : Addr) : XW := match K.lookup a with
  | some ⟨_, _, .func fd, _⟩ => some (fd.name, fd.qualname, fd.params, fd.body, fd.scope, fd.globals, fd.closure.map (·.1), fd.builtins)
  | _ => none
structure DefX where
  x : Str
  f : Str
  qual : Str
  st : Stmt
  Bi : String
  ini : String
  new : String
  bm : PySem.W.Frag → List Value
def DefX.val (d : DefX) : XW := some ("__init__", d.qual, defArgs d.st, .stmts (defBody d.st), defScope d.st, mainGlobals, ["__class__"], builtinsNs)
def fileP : Str := PySem.Challenge.rw_pulleyworks_k73_whole_workshops.prog.main.file
def clsB (K : PySem.W.Frag) (C : Addr) (bm : List Value) (new ini : String) : Bool := match K.lookup C with
  | some ⟨.type "type", _, .cls cd, sl⟩ => (match cd.mro, sl.toList with
    | .ref C' :: bm', [_, _, _, _, some (.builtin n), _] => decide (C' = C) && (decide (n = new) && (!cd.hasDel && (cd.hasDict && (decide (bm' = bm) && He.eqO (PySem.W.alongIn K "__init__" bm') (some (some (.builtin ini)))))))
    | _, _ => false)
  | _ => false
def iniB (K : PySem.W.Frag) (C fI : Addr) (qual : Str) : Bool := match K.lookup fI with
  | some ⟨_, _, .func fd, _⟩ => (match fd.defaults, fd.kwdefaults, fd.code, fd.closure with
    | .none, .none, .ref cda, [(_, cc)] => PySem.W.codeIn K (.ref cda) qual && ((match K.lookup cda with
        | some ⟨_, _, .fields vs, _⟩ => (match (vs[2]? : Option Value) with
          | some (Value.str file _) => (fileP == file)
          | _ => false)
        | _ => false) && (match K.lookup cc with
        | some ⟨_, _, .cell (some (.ref C')), _⟩ => decide (C' = C)
        | _ => false))
    | _, _, _, _ => false)
  | _ => false
def DefX.ok (K : PySem.W.Frag) (d : DefX) : Bool :=
  clsB K (ga K d.x) (d.bm K) d.new d.ini && (iniB K (ga K d.x) (ma K (ga K d.x) "__init__") d.qual &&
  (He.eqO (PySem.W.findIn K (.ref (ga K d.x)) "__setattr__") (some (some (.builtin "object.__setattr__"))) &&
  (He.eqO (PySem.W.findIn K (.ref (ga K d.x)) "__getattribute__") (some (some (.builtin "BaseException.__getattribute__"))) &&
  (He.eqO (PySem.W.findIn K (.ref (ga K d.x)) "__getattr__") (some none) &&
  (He.eqO (PySem.W.findIn K (.ref (ga K d.x)) d.f) (some none) &&
  (He.eqO (PySem.W.findIn K (.ref (ga K d.x)) "__init__") (some (some (.ref (ma K (ga K d.x) "__init__")))) &&
  (decide (PySem.W.typeIn K (.ref (ma K (ga K d.x) "__init__")) = some (.type "function")) &&
  (PySem.W.keepIn K (.ref (ga K d.x)) &&
  (decide (PySem.W.subIn K (.ref (ga K d.x)) (.type "BaseException") = some true) &&
  (decide (PySem.W.typeIn K (.ref (ga K d.x)) = some (.type "type")) &&
  (PySem.W.hasDictIn K (ga K d.x) &&
  (decide (PySem.W.subIn K (.ref (ga K d.x)) (.type d.Bi) = some true) &&
  (decide (PySem.W.mroIn K (ga K d.x) (.ref (ga K d.x)) = some true) &&
  He.eqO (PySem.W.nsIn K cStatics "thirdparty.any") (some none))))))))))))))
def bmV (K : PySem.W.Frag) : List Value := [.ref (ga K "WorkError"), .type "ValueError", .type "Exception", .type "BaseException", .type "object"]
def bmO (_ : PySem.W.Frag) : List Value := [.type "OverflowError", .type "ArithmeticError", .type "Exception", .type "BaseException", .type "object"]
def bmK (_ : PySem.W.Frag) : List Value := [.type "KeyError", .type "LookupError", .type "Exception", .type "BaseException", .type "object"]
def fa : List He.Fa := [.glo "is_integer", .glo "common_divisor", .glo "is_fraction", .glo "is_load", .glo "is_word", .glo "is_name", .glo "are_hooks", .glo "are_anchors", .glo "is_path", .glo "is_rope", .glo "ordered", .glo "check_known", .glo "check_size", .mkr "Work", .meth "Work" "points", .meth "Work" "with_load", .meth "Work" "with_rope", .meth "Work" "without_rope", .meth "Work" "__eq__", .glo "check_work", .glo "applied", .mkr "Workshop", .meth "Workshop" "check", .meth "Workshop" "record", .meth "Workshop" "set_load", .meth "Workshop" "set_rope", .meth "Workshop" "drop_rope", .meth "Workshop" "undo", .meth "Workshop" "work", .meth "Workshop" "__len__", .glo "_law_pool", .glo "_law_draw", .glo "_law_gcd", .glo "_law_made", .glo "_law_add", .glo "_law_mul", .glo "_law_sum", .glo "_law_number", .glo "_law_signed", .glo "_law_path", .glo "_law_coefficient", .glo "_law_carried", .glo "_law_given", .glo "_law_built", .glo "_law_add_rope", .glo "_law_entry", .glo "_law_path_holds", .glo "_law_due", .glo "_law_made_entry", .glo "_law_undone", .glo "_law_done", .glo "_law_shows", .glo "law", .glo "Work", .cls "Work", .glo "Workshop", .cls "Workshop", .noat "Work" "own_loads", .noat "Work" "own_heights", .noat "Work" "own_ropes", .noat "Workshop" "first_works", .noat "Workshop" "own_works", .noat "Workshop" "own_entries", .int "MAX_HOOKS" 8, .int "MAX_ANCHORS" 8, .int "MAX_ROPES" 10, .int "MAX_POINTS" 12, .int "MAX_LETTERS" 8, .int "MAX_WORKS" 10, .str "SMALL" "abcdefghijklmnopqrstuvwxyz", .str "GREAT" "ABCDEFGHIJKLMNOPQRSTUVWXYZ", .glo "DIRECTIONS", .free "len", .free "abs", .free "isinstance", .free "all", .free "sorted", .free "dict", .free "list", .free "tuple", .free "int", .free "str", .free "bool", .free "range", .free "enumerate", .free "min", .free "max", .free "sum", .free "super", .glo "InvalidNumber", .glo "InvalidName", .glo "InvalidRope", .glo "InvalidWork", .glo "LimitExceeded", .glo "UnknownName", .glo "NothingToUndo"]
def fn : List DefM := [⟨fun K => ga K "is_integer", "is_integer", "is_integer", s_is_integer, []⟩, ⟨fun K => ga K "common_divisor", "common_divisor", "common_divisor", s_common_divisor, []⟩, ⟨fun K => ga K "is_fraction", "is_fraction", "is_fraction", s_is_fraction, []⟩, ⟨fun K => ga K "is_load", "is_load", "is_load", s_is_load, []⟩, ⟨fun K => ga K "is_word", "is_word", "is_word", s_is_word, []⟩, ⟨fun K => ga K "is_name", "is_name", "is_name", s_is_name, []⟩, ⟨fun K => ga K "are_hooks", "are_hooks", "are_hooks", s_are_hooks, []⟩, ⟨fun K => ga K "are_anchors", "are_anchors", "are_anchors", s_are_anchors, []⟩, ⟨fun K => ga K "is_path", "is_path", "is_path", s_is_path, []⟩, ⟨fun K => ga K "is_rope", "is_rope", "is_rope", s_is_rope, []⟩, ⟨fun K => ga K "ordered", "ordered", "ordered", s_ordered, []⟩, ⟨fun K => ga K "check_known", "check_known", "check_known", s_check_known, []⟩, ⟨fun K => ga K "check_size", "check_size", "check_size", s_check_size, []⟩, ⟨fun K => ma K (ga K "Work") "__init__", "__init__", "Work.__init__", s_Work_init, [("anchors", .non)]⟩, ⟨fun K => ma K (ga K "Work") "points", "points", "Work.points", s_Work_points, []⟩, ⟨fun K => ma K (ga K "Work") "with_load", "with_load", "Work.with_load", s_Work_with_load, []⟩, ⟨fun K => ma K (ga K "Work") "with_rope", "with_rope", "Work.with_rope", s_Work_with_rope, []⟩, ⟨fun K => ma K (ga K "Work") "without_rope", "without_rope", "Work.without_rope", s_Work_without_rope, []⟩, ⟨fun K => ma K (ga K "Work") "__eq__", "__eq__", "Work.__eq__", s_Work_eq, []⟩, ⟨fun K => ga K "check_work", "check_work", "check_work", s_check_work, []⟩, ⟨fun K => ga K "applied", "applied", "applied", s_applied, []⟩, ⟨fun K => ma K (ga K "Workshop") "__init__", "__init__", "Workshop.__init__", s_Workshop_init, []⟩, ⟨fun K => pgA K (ma K (ga K "Workshop") "names"), "names", "Workshop.names", s_Workshop_names, []⟩, ⟨fun K => pgA K (ma K (ga K "Workshop") "entries"), "entries", "Workshop.entries", s_Workshop_entries, []⟩, ⟨fun K => ma K (ga K "Workshop") "check", "check", "Workshop.check", s_Workshop_check, []⟩, ⟨fun K => ma K (ga K "Workshop") "record", "record", "Workshop.record", s_Workshop_record, []⟩, ⟨fun K => ma K (ga K "Workshop") "set_load", "set_load", "Workshop.set_load", s_Workshop_set_load, []⟩, ⟨fun K => ma K (ga K "Workshop") "set_rope", "set_rope", "Workshop.set_rope", s_Workshop_set_rope, []⟩, ⟨fun K => ma K (ga K "Workshop") "drop_rope", "drop_rope", "Workshop.drop_rope", s_Workshop_drop_rope, []⟩, ⟨fun K => ma K (ga K "Workshop") "undo", "undo", "Workshop.undo", s_Workshop_undo, []⟩, ⟨fun K => ma K (ga K "Workshop") "work", "work", "Workshop.work", s_Workshop_work, []⟩, ⟨fun K => ma K (ga K "Workshop") "__len__", "__len__", "Workshop.__len__", s_Workshop_len, []⟩, ⟨fun K => ga K "_law_pool", "_law_pool", "_law_pool", s_law_pool, []⟩, ⟨fun K => ga K "_law_draw", "_law_draw", "_law_draw", s_law_draw, []⟩, ⟨fun K => ga K "_law_gcd", "_law_gcd", "_law_gcd", s_law_gcd, []⟩, ⟨fun K => ga K "_law_made", "_law_made", "_law_made", s_law_made, []⟩, ⟨fun K => ga K "_law_add", "_law_add", "_law_add", s_law_add, []⟩, ⟨fun K => ga K "_law_mul", "_law_mul", "_law_mul", s_law_mul, []⟩, ⟨fun K => ga K "_law_sum", "_law_sum", "_law_sum", s_law_sum, []⟩, ⟨fun K => ga K "_law_number", "_law_number", "_law_number", s_law_number, []⟩, ⟨fun K => ga K "_law_signed", "_law_signed", "_law_signed", s_law_signed, []⟩, ⟨fun K => ga K "_law_path", "_law_path", "_law_path", s_law_path, []⟩, ⟨fun K => ga K "_law_coefficient", "_law_coefficient", "_law_coefficient", s_law_coefficient, []⟩, ⟨fun K => ga K "_law_carried", "_law_carried", "_law_carried", s_law_carried, []⟩, ⟨fun K => ga K "_law_given", "_law_given", "_law_given", s_law_given, []⟩, ⟨fun K => ga K "_law_built", "_law_built", "_law_built", s_law_built, []⟩, ⟨fun K => ga K "_law_add_rope", "_law_add_rope", "_law_add_rope", s_law_add_rope, []⟩, ⟨fun K => ga K "_law_entry", "_law_entry", "_law_entry", s_law_entry, []⟩, ⟨fun K => ga K "_law_path_holds", "_law_path_holds", "_law_path_holds", s_law_path_holds, []⟩, ⟨fun K => ga K "_law_due", "_law_due", "_law_due", s_law_due, []⟩, ⟨fun K => ga K "_law_made_entry", "_law_made_entry", "_law_made_entry", s_law_made_entry, []⟩, ⟨fun K => ga K "_law_undone", "_law_undone", "_law_undone", s_law_undone, []⟩, ⟨fun K => ga K "_law_done", "_law_done", "_law_done", s_law_done, []⟩, ⟨fun K => ga K "_law_shows", "_law_shows", "_law_shows", s_law_shows, []⟩, ⟨fun K => ga K "law", "law", "law", s_law, []⟩]
abbrev sx_InvalidNumber : Stmt := inClass (top 3) 0
abbrev sx_InvalidName : Stmt := inClass (top 6) 0
abbrev sx_InvalidRope : Stmt := inClass (top 5) 0
abbrev sx_InvalidWork : Stmt := inClass (top 4) 0
abbrev sx_LimitExceeded : Stmt := inClass (top 8) 0
abbrev sx_UnknownName : Stmt := inClass (top 9) 0
def xs : List DefX := [⟨"InvalidNumber", "value", "InvalidNumber.__init__", sx_InvalidNumber, "ValueError", "ValueError.__init__", "ValueError.__new__", bmV⟩, ⟨"InvalidName", "value", "InvalidName.__init__", sx_InvalidName, "ValueError", "ValueError.__init__", "ValueError.__new__", bmV⟩, ⟨"InvalidRope", "name", "InvalidRope.__init__", sx_InvalidRope, "ValueError", "ValueError.__init__", "ValueError.__new__", bmV⟩, ⟨"InvalidWork", "part", "InvalidWork.__init__", sx_InvalidWork, "ValueError", "ValueError.__init__", "ValueError.__new__", bmV⟩, ⟨"LimitExceeded", "count", "LimitExceeded.__init__", sx_LimitExceeded, "OverflowError", "OverflowError.__init__", "OverflowError.__new__", bmO⟩, ⟨"UnknownName", "name", "UnknownName.__init__", sx_UnknownName, "KeyError", "KeyError.__init__", "LookupError.__new__", bmK⟩]
def exmB (K : PySem.W.Frag) : Bool := exNames.all fun x => exNames.all fun y => decide (PySem.W.exmOne K (.ref (ga K x)) (.ref (ga K y)) = some (decide (x = y)))
def moreB (K : PySem.W.Frag) : Bool := propB K "Workshop" "names" && (propB K "Workshop" "entries" && (!decide (ga K "Work" = ga K "Workshop") &&
  (He.eqO (PySem.W.findIn K (.ref (ga K "Work")) "__class__") (some (some (.builtin "object.__class__"))) && (He.eqO (PySem.W.specialIn K (.builtin "object.__class__") "__get__") (some (some (.builtin "getset_descriptor.__get__"))) &&
  (decide (PySem.W.takesIn K (.builtin "object.__class__") = some true) && (decide (PySem.W.mroIn K (ga K "Work") (.type "object") = some true) &&
  (He.tupB K "DIRECTIONS" [.str "up", .str "down"] && (exmB K &&
  (PySem.W.excIn K (ga K "NothingToUndo") [.type "RuntimeError", .type "Exception", .type "BaseException", .type "object"] "RuntimeError.__new__" && (PySem.W.keepIn K (.ref (ga K "NothingToUndo")) &&
  (decide (PySem.W.subIn K (.ref (ga K "NothingToUndo")) (.type "BaseException") = some true) && decide (PySem.W.typeIn K (.ref (ga K "NothingToUndo")) = some (.type "type")))))))))))))
abbrev AlM : Type := (Bool × List He.FnW) × List XW
def obsM (K : PySem.W.Frag) : AlM := ((fa.all (fun f => f.ok K) && (fn.all (fun d => d.ok K) && (xs.all (fun d => d.ok K) && moreB K)), fn.map fun d => fnWa K (d.at_ K)), xs.map fun d => xWa K (ma K (ga K d.x) "__init__"))
def valM : AlM := ((true, fn.map DefM.val), xs.map DefX.val)
def SaysM (K : PySem.W.Frag) : Prop := obsM K = valM
def refsM (o : Obj) : List Addr := match o.data with
  | .dict es _ => es.toList.flatMap fun e => He.refV e.val
  | .func fd => He.refV fd.code ++ (He.refV fd.defaults ++ (He.refV fd.kwdefaults ++ fd.closure.map (·.2)))
  | .cls cd => [cd.ns]
  | .fields vs => (match o.cls with
    | .type n => if n == "property" then vs.toList.flatMap He.refV else []
    | _ => [])
  | _ => []
def stepM (g : Addr → Option Obj) (as : List Addr) : List Addr := as.flatMap fun a => match g a with
  | some o => refsM o
  | none => []
def levM (g : Addr → Option Obj) : Nat → List Addr → List Addr
  | 0, l => l
  | n + 1, l => l ++ levM g n (stepM g l)
def asM (g : Addr → Option Obj) (n : Nat) : List Addr := cStatics :: levM g n [mainGlobals]
def obG (n : Nat) (g : Addr → Option Obj) : AlM := obsM (He.frG g (asM g n))
def hookM (n : Nat) : PySem.W.Hook where
  α := AlM
  obs := fun s => obG n s.heap.get?
  val := fun _ => valM
  says := fun _ h => ∃ K : PySem.W.Frag, K.In h ∧ SaysM K
  of := fun _ _ e => ⟨_, He.frG_in, e⟩
  keeps := fun _ _ _ ⟨K, hK, c⟩ k => ⟨K, PySem.W.Frag.In.keeps hK k, c⟩
theorem obG_eq {n : Nat} {g : Addr → Option Obj} {s : Shared} (h : ∀ a, g a = s.heap.get? a) : obG n g = (hookM n).obs s := by
  have e : g = s.heap.get? := funext h
  rw [e] <;> rfl
def names1 : List PySem.Str := [PySem.Str.ofString "_wall", PySem.Str.ofString "WorkError", PySem.Str.ofString "InvalidNumber", PySem.Str.ofString "InvalidWork", PySem.Str.ofString "InvalidRope", PySem.Str.ofString "InvalidName", PySem.Str.ofString "NameClash", PySem.Str.ofString "LimitExceeded", PySem.Str.ofString "UnknownName", PySem.Str.ofString "NothingToUndo", PySem.Str.ofString "is_integer", PySem.Str.ofString "common_divisor", PySem.Str.ofString "reduced", PySem.Str.ofString "is_fraction", PySem.Str.ofString "is_load", PySem.Str.ofString "multiplied", PySem.Str.ofString "MAX_HOOKS", PySem.Str.ofString "MAX_ANCHORS", PySem.Str.ofString "MAX_ROPES", PySem.Str.ofString "MAX_POINTS", PySem.Str.ofString "MAX_LETTERS", PySem.Str.ofString "SMALL", PySem.Str.ofString "GREAT", PySem.Str.ofString "DIRECTIONS", PySem.Str.ofString "is_word", PySem.Str.ofString "is_name", PySem.Str.ofString "are_hooks", PySem.Str.ofString "are_anchors", PySem.Str.ofString "is_path", PySem.Str.ofString "is_rope", PySem.Str.ofString "ordered", PySem.Str.ofString "check_known", PySem.Str.ofString "check_size", PySem.Str.ofString "check_apart", PySem.Str.ofString "Work"]
def names2 : List PySem.Str := [PySem.Str.ofString "check_work", PySem.Str.ofString "MAX_WORKS", PySem.Str.ofString "applied", PySem.Str.ofString "Workshop", PySem.Str.ofString "_law_pool", PySem.Str.ofString "_law_draw", PySem.Str.ofString "_law_gcd", PySem.Str.ofString "_law_made", PySem.Str.ofString "_law_add", PySem.Str.ofString "_law_mul", PySem.Str.ofString "_law_sum", PySem.Str.ofString "_law_number", PySem.Str.ofString "_law_signed", PySem.Str.ofString "_law_path", PySem.Str.ofString "_law_coefficient", PySem.Str.ofString "_law_carried", PySem.Str.ofString "_law_given", PySem.Str.ofString "_law_built", PySem.Str.ofString "_law_add_rope", PySem.Str.ofString "_law_entry", PySem.Str.ofString "_law_path_holds", PySem.Str.ofString "_law_due", PySem.Str.ofString "_law_made_entry", PySem.Str.ofString "_law_undone", PySem.Str.ofString "_law_done", PySem.Str.ofString "_law_shows"]
def names : List PySem.Str := names1 ++ names2
abbrev RR : PySem.W.OpenRow := PySem.W.OpenLaw.row PySem.Challenge.rw_pulleyworks_k73_whole_workshops
abbrev hkM : PySem.W.Hook := hookM 5
def obM (s : PySem.W.SharedT) : AlM := obG 5 (HandSHeadRun.getT s)
theorem obM_eq (s : PySem.W.SharedT) : obM s = hkM.obs s.abs := obG_eq (HandSHeadRun.getT_eq s)
theorem runM (w : World) : HandSHeadRun.RunEq RR (PySem.W.view RR.prog [66]) hkM obM 5600 names w := by
  intro os
  kernel_rfl
end K7

set_option Elab.async false
set_option linter.all false
set_option maxRecDepth 100000
set_option maxHeartbeats 4000000
/-! Rules of our own: t[i::2] of a tuple; len(o) by the class's own method. -/
namespace K7
open PySem PySem.Spec PyProof.Rows L2
abbrev St := L2.St
/-! ### t[::2], t[1::2] -/
/-- every second item from place i on -/
def alt (i : Nat) (xs : List V) : List V := ((List.range (Builtin.Slice.slicePlaces (i : Int) (xs.length : Int) 2)).filterMap fun k => xs[i + 2 * k]?)
section
variable {prog : Program} {w : World} {A : Around} {E : Value → Shared → Prop} {s : Shared}
theorem places_two {i n : Nat} (hi : i ≤ n) (k : Nat) : k < Builtin.Slice.slicePlaces (i : Int) (n : Int) 2 ↔ i + 2 * k < n := by
  unfold Builtin.Slice.slicePlaces
  have h1 : (2 : Int) > 0 := by omega
  simp only [h1, if_true]
  by_cases h : i < n
  · have h2 : (i : Int) < (n : Int) := by omega
    simp only [h2, if_true]
    omega
  · have h2 : ¬ (i : Int) < (n : Int) := by omega
    simp only [h2, if_false]
    omega
theorem sliceApplied_two {sl : Addr} {vl : Value} {lo : Option Int} {t : Tok} {n : Nat} {Q : Int × Int × Nat → Shared → Prop} (hs : s.heap.IsSliceOf sl vl .none (.int 2 t)) (pl : IsPart vl lo)
    (h : Q (((HT.sIx n 0 lo : Nat) : Int), 2, Builtin.Slice.slicePlaces ((HT.sIx n 0 lo : Nat) : Int) (n : Int) 2) s) : wpAny (model prog w) A (Builtin.Slice.sliceApplied (.ref sl) (pure (n : Int))) Q E s := by
  obtain ⟨os, hos, hcs, hds⟩ := id hs
  unfold Builtin.Slice.sliceApplied Builtin.Slice.sliceFields
  refine wpAny_bind (wpAny_bind (wpAny_field hos hds (x := vl) rfl (wpAny_bind (wpAny_field hos hds (x := .none) rfl (wpAny_bind (wpAny_field hos hds (x := .int 2 t) rfl (wpAny_pure ?_)))))))
  refine wpAny_bind (HT.slicePart_ (.int 2 t) ?_)
  show wpAny _ _ (if ((2 : Int) == 0) = true then _ else _) _ _ s
  rw [if_neg (by decide)]
  refine wpAny_bind (HT.slicePart_ pl (wpAny_bind (HT.slicePart_ .none (wpAny_bind (wpAny_pure ?_)))))
  show wpAny _ _ (match Builtin.Slice.sliceAdjust lo none 2 (n : Int) with | (lo, hi) => pure (lo, (2 : Int), Builtin.Slice.slicePlaces lo hi 2)) _ _ s
  have e : Builtin.Slice.sliceAdjust lo none 2 (n : Int) = (((HT.sIx n 0 lo : Nat) : Int), (n : Int)) := by
    have h1 : ¬ ((2 : Int) < 0) := by omega
    unfold Builtin.Slice.sliceAdjust
    simp only [h1, if_false]
    refine Prod.ext ?_ rfl
    cases lo with
    | none => rfl
    | some v => exact HT.clip_eq v n 0
  rw [e]
  exact wpAny_pure h
theorem pick_two (xs : Array Value) (i k : Nat) : ((List.range k).filterMap fun (m : Nat) => xs[((i : Int) + (m : Int) * 2).toNat]?) = (List.range k).filterMap fun m => xs.toList[i + 2 * m]? := by
  have e : (fun (m : Nat) => xs[((i : Int) + (m : Int) * 2).toNat]?) = fun m => xs.toList[i + 2 * m]? := by
    funext m
    have : ((i : Int) + (m : Int) * 2).toNat = i + 2 * m := by omega
    rw [this, Array.getElem?_toList]
  rw [e]
theorem fm_le {α : Type} (f : Nat → Option α) : ∀ k, ((List.range k).filterMap f).length ≤ k := fun k => by
  have := List.length_filterMap_le f (List.range k)
  rw [List.length_range] at this
  exact this
theorem getItem_tup2 {t sl : Addr} {items : Array Value} {vl : Value} {lo : Option Int} {u : Tok} {Q : Value → Shared → Prop} (ht : IsTup s.heap t items) (hs : s.heap.IsSliceOf sl vl .none (.int 2 u)) (pl : IsPart vl lo)
    (h : Q (.ref s.heap.objs.size) { s with heap := s.heap.push { cls := .type "tuple", data := .seq (((List.range (Builtin.Slice.slicePlaces ((HT.sIx items.size 0 lo : Nat) : Int) (items.size : Int) 2)).filterMap fun m => items.toList[HT.sIx items.size 0 lo + 2 * m]?)).toArray } })
    (hsz : items.size ≤ sizeLine) (hl : HT.sIx items.size 0 lo ≤ items.size) : wpAny (model prog w) A (getItem (.ref t) (.ref sl)) Q E s := by
  have htake : sizeOk (.seq (((List.range (Builtin.Slice.slicePlaces ((HT.sIx items.size 0 lo : Nat) : Int) (items.size : Int) 2)).filterMap fun m => items.toList[HT.sIx items.size 0 lo + 2 * m]?)).toArray) := by
    show (((List.range (Builtin.Slice.slicePlaces ((HT.sIx items.size 0 lo : Nat) : Int) (items.size : Int) 2)).filterMap fun m => items.toList[HT.sIx items.size 0 lo + 2 * m]?)).toArray.size ≤ sizeLine
    rw [List.size_toArray]
    refine Nat.le_trans (fm_le _ _) (Nat.le_trans ?_ hsz)
    have q := fun k => places_two hl k
    rcases Nat.lt_or_ge items.size (Builtin.Slice.slicePlaces ((HT.sIx items.size 0 lo : Nat) : Int) (items.size : Int) 2) with z | z
    · have := (q items.size).mp z
      omega
    · exact z
  obtain ⟨os, hos, hcs, hds⟩ := id hs
  have hTs : s.TypeIs (.ref sl) "slice" := ⟨os, hos, hcs⟩
  unfold getItem
  try with_reducible refine wpAny_holding ?_
  first | refine wpAny_bind (wpAny_pure ?_) | skip
  refine wpAny_bind (wpAny_sequenceKey ht.typeIs (by decide) ?_)
  refine wpAny_bind (wpAny_callSpecial?_slot (name := Str.ofString "__getitem__") ht.typeIs PyProof.Rows.slot_tuple_getitem
    (wpAny_call_entry PyProof.Rows.slot_tuple_getitem ht.typeIs entry_tuple_getitem ?_ (args_tuple_getitem _ _)))
  show wpAny _ _ (Builtin.Tuple.tupleItemsOf (.ref t) >>= _) _ _ s
  refine wpAny_bind (tupleItemsOf_ ht ?_)
  refine wpAny_bind (wpAny_typeOf hTs ?_)
  rw [if_pos (by decide)]
  refine wpAny_bind (sliceApplied_two hs pl ?_)
  have hno : ¬ ((((HT.sIx items.size 0 lo : Nat) : Int) == 0 && (2 : Int) == 1 && (Builtin.Slice.slicePlaces ((HT.sIx items.size 0 lo : Nat) : Int) (items.size : Int) 2) == items.size) = true) := by
    intro q
    rw [Bool.and_eq_true, Bool.and_eq_true] at q
    exact absurd q.1.2 (by decide)
  show wpAny _ _ (if (((HT.sIx items.size 0 lo : Nat) : Int) == 0 && (2 : Int) == 1 && (Builtin.Slice.slicePlaces ((HT.sIx items.size 0 lo : Nat) : Int) (items.size : Int) 2) == items.size) = true then _ else _) _ _ s
  rw [if_neg hno, pick_two]
  first
    | exact wpAny_bind (m := Builtin.Tuple.tupleExact _) (wpAny_newObj_type (wpAny_pure ⟨_, rfl, wpAny_pure h⟩) htake)
    | exact wpAny_bind (m := Builtin.Tuple.tupleExact _) (wpAny_newObj_type (wpAny_bind (wpAny_pure (wpAny_pure ⟨_, rfl, wpAny_pure h⟩))) htake)
    | exact wpAny_bind (wpAny_bind (m := Builtin.Tuple.tupleExact _) (wpAny_newObj_type (wpAny_pure (wpAny_pure ⟨_, rfl, wpAny_pure h⟩)) htake))
    | exact wpAny_bind (wpAny_bind (m := Builtin.Tuple.tupleExact _) (wpAny_newObj_type (wpAny_pure ⟨_, rfl, wpAny_pure h⟩) htake))
end
theorem alt_length (i : Nat) (xs : List V) (hi : i ≤ xs.length) : (alt i xs).length ≤ xs.length := by
  unfold alt
  refine Nat.le_trans (fm_le _ _) ?_
  rcases Nat.lt_or_ge xs.length (Builtin.Slice.slicePlaces (i : Int) (xs.length : Int) 2) with z | z
  · have := (places_two hi xs.length).mp z
    omega
  · exact z
theorem vals_alt {xs : List V} {us : List Value} (r : Vals xs us) (i n : Nat) : Vals ((List.range n).filterMap fun k => xs[i + 2 * k]?) ((List.range n).filterMap fun k => us[i + 2 * k]?) := by
  generalize List.range n = l
  induction l with
  | nil => exact .nil
  | cons k l ih =>
    rw [List.filterMap_cons, List.filterMap_cons]
    cases e : xs[i + 2 * k]? with
    | none =>
      rw [r.none_of e]
      exact ih
    | some x =>
      obtain ⟨u, eu, ru⟩ := r.get e
      rw [eu]
      exact .cons ru ih
/-- t[lo::2], lo nothing or a place -/
def tSl2 (K : PySem.W.Frag) (te : TE) (tl : TO) : TE := fun σ H Q => te σ H fun x H1 => tl σ H1 fun l H2 => ∃ a xs, x = .ref a ∧ SqT K H2 a xs ∧ HT.sIx xs.length 0 l ≤ xs.length ∧ ∀ p, H2 p = none → Q (.ref p) (upd H2 p (.tup (alt (HT.sIx xs.length 0 l) xs)))
theorem pe_slice2 {X : Cx} {e : Expr} {te : TE} {lo : Option Expr} {tl : TO} {j : Nat} {p1 p2 pos : Pos} (he : PE X e te) (hl : PO X lo tl) :
    PE X (.Subscript e (.Slice lo none (some (.Constant (.int 2) j p1)) p2) pos) (tSl2 X.K te tl) := by
  refine ⟨fun pins s σ H Q I h => ?_⟩
  refine Subscript_ (thn (he.run pins s σ H _ I h) fun v s1 ⟨x, H1, I1, r1, q1⟩ => ?_)
  refine wpAny_Slice (thn (hl.run pins s1 σ H1 _ I1 q1) fun vl s2 ⟨l, H2, I2, pl, q2⟩ => ?_)
  rw [evalPart_none]
  refine wpAny_pure ?_
  rw [evalPart_some]
  refine thn ((pe_int (X := X) (i := 2) (j := j) (pos := p1)).run pins s2 σ H2 (fun y H3 => y = .int 2 ∧ H3 = H2) I2 ⟨rfl, rfl⟩) fun vs s3 ⟨y, H3, I3, r3, ey, eH⟩ => ?_
  subst ey
  subst eH
  obtain ⟨t, rfl⟩ := r3
  obtain ⟨a, xs, rfl, hx, hle, q⟩ := q2
  cases r1
  have I4 : Inv X pins σ H3 { s3 with heap := s3.heap.push { cls := .type "slice", data := .fields #[vl, .none, .int 2 t] } } := I3.kept (t' := s3.toks) fun b ob z => Heap.get?_push_of_some _ z
  obtain ⟨its, r, ht, hz⟩ := I4.tuple hx
  have hlen : its.toArray.size = xs.length := by rw [List.size_toArray]; exact r.length.symm
  refine tail_any (ops := [.ref a, .ref s3.heap.objs.size]) ht.typeIs PyProof.Rows.slot_tuple_getitem.lookup ?_ (by with_unfolding_all rfl)
  refine getItem_tup2 ht (Heap.IsSliceOf.new ..) pl ?_ (by rw [hlen]; exact hz) (by rw [hlen]; exact hle)
  rw [hlen]
  refine ⟨.ref _, _, I4.laid (t' := s3.toks) (o := .tup (alt (HT.sIx xs.length 0 l) xs)) (fun b ob z => Heap.get?_push_of_some _ z) (Nat.le_refl _) ?_, rfl, q _ (I4.hok.fresh (Nat.le_refl _))⟩
  exact ⟨Nat.le_trans (alt_length _ _ hle) hz, _, vals_alt r _ _, IsTup.new _ _⟩
/-! ### len(o), o an instance whose class has its own method for it -/
/-- the promise at o: an int, not negative, within the line -/
def tLenO (C : Addr) (sp : Sp) (E : XK) (ta : TE) : TE := fun σ H Q => ta σ H fun x H1 => ∃ a dx fs, x = .ref a ∧ H1 a = some (.ins C dx fs) ∧ sp [.ref a] H1 (fun v H2 => ∃ i : Int, v = .int i ∧ (0 ≤ i ∧ i < 2 ^ 63) ∧ Q (.int i) H2) E
theorem call_lenO {X : Cx} {CX : CXT} {k : Nat} {f C : Addr} {fd : FuncData} {ps : List Str} {sp : Sp} {E : XK} (F : FnOk X.prog X.w X.K X.mg X.base CX k f fd ps sp) (hs : PySem.W.findIn X.K (.ref C) "__len__" = some (some (.ref f))) (hf : PySem.W.isFn X.K (.ref f) = true)
    (hr : Room (k + 1) X.A) (hb : Binds X.K fd ps []) (hx : Passes CX X E) : CallR X (.builtin "len") (fun xs H Q => ∃ a dx fs, xs = [.ref a] ∧ H a = some (.ins C dx fs) ∧ sp [.ref a] H (fun v H2 => ∃ i : Int, v = .int i ∧ (0 ≤ i ∧ i < 2 ^ 63) ∧ Q (.int i) H2) E) := by
  intro pins s σ H xs us Q I rx h
  obtain ⟨a, dx, fs, rfl, ea, hsp⟩ := h
  cases rx with
  | cons r1 r2 =>
    cases r2
    cases r1
    obtain ⟨mA, O, _, _, _, _⟩ := ins_get I.hok ea
    obtain ⟨od, J, _⟩ := O.look
    obtain ⟨m, hF⟩ := I.fr
    refine PySem.W.len_K hF I.ok.mod.kin J hs hf ?_
    have hl := F.len _ _ _ _ hsp
    have b := hb s [.ref a] I.kIn (by simpa using hl)
    rw [List.append_nil] at b
    refine wpAny_call (codeAny_mono (F.run X.A.in1 X.stack s H ⟨[.ref a], []⟩ [.ref a] [.ref a] _ E hr.in1 I.env0.in1 b (.cons rfl .nil) hsp) fun r s' hq => ?_)
    cases r with
    | error e => exact hx pins σ H s e s' I hq
    | ok fl =>
      cases fl with
      | ret u =>
        obtain ⟨v, H', I3, rv, i, ev, hi, q3⟩ := I.after hq
        subst ev
        obtain ⟨t, rfl⟩ := rv
        exact ⟨hi, .int i, H', I3.tok _, ⟨_, rfl⟩, q3⟩
      | next => exact False.elim hq
      | brk => exact False.elim hq
      | cont => exact False.elim hq
end K7

set_option Elab.async false
set_option linter.all false
set_option maxRecDepth 100000
set_option maxHeartbeats 4000000
namespace K7
open PySem PySem.Spec PyProof.Rows L2
section
variable {prog : Program} {w : World} {A : Around} {E : Value → Shared → Prop} {s : Shared}
theorem dictPut_mix {d : Addr} {kvs : List (Key × Value)} {k : Key} {key v : Value} {Q : Unit → Shared → Prop} (hkey : (mixKind prog w).is k key = true) (hm : s.heap.DictOf (mixKind prog w) d kvs)
    (hQ : ∀ h', h'.DictOf (mixKind prog w) d (stored kvs k v) → Heap.SameBut d s.heap h' → Q () { s with heap := h' }) (hsz : kvs.length ≤ sizeLine) :
    wpAny (model prog w) A (dictPut d ((mixKind prog w).hash k) key v) Q E s := by
  obtain ⟨o, es, ep, ho, hc, hd, hk, hp, hn⟩ := hm
  have hes : es.size ≤ sizeLine := by
    have e1 := hp.length
    have e2 : es.toList.length = es.size := by simp
    omega
  unfold dictPut
  refine wpAny_bind (wpAny_dictFind_of hkey ho hd hk ?_)
  have hidx : (es.findIdx? fun e => (mixKind prog w).is k e.key) = kvs.findIdx? fun kv => decide (kv.1 = k) := by
    rw [← hp.findIdx k]; obtain ⟨l⟩ := es; simp
  cases hi : es.findIdx? fun e => (mixKind prog w).is k e.key with
  | some i =>
    refine wpAny_updateDict ho hd (hQ _ ⟨_, _, ep, Heap.get?_update_self _ ho (Obj.isFreed_of_dict (Obj.data_mapDict hd _)), hc.mapDict _, Obj.data_mapDict hd _, hk.modify _ _, ?_, ?_⟩ (Heap.SameBut.update ..))
    · rw [stored, if_pos (any_of_findIdx_some (hidx ▸ hi))]
      have hl : (es.toList.findIdx? fun e => (mixKind prog w).is k e.key) = some i := by rw [← hi]; obtain ⟨l⟩ := es; simp
      have := hp.modify hn hl v
      obtain ⟨l⟩ := es
      simpa using this
    · rw [stored, if_pos (any_of_findIdx_some (hidx ▸ hi)), keys_map_store]; exact hn
  | none =>
    have hnot : k ∉ kvs.map (·.1) := not_mem_of_findIdx_none (hidx ▸ hi)
    have hany : ¬ (kvs.any fun kv => decide (kv.1 = k)) = true := by
      rw [List.any_eq_true]; rintro ⟨kv, hkv, he⟩
      exact hnot (List.mem_map.mpr ⟨kv, hkv, of_decide_eq_true he⟩)
    refine wpAny_updateDictKeys (hz := hes) ho hd (hQ _ ⟨_, _, ep + 1, Heap.get?_update_self _ ho (Obj.isFreed_of_dict (Obj.data_mapDictKeys hd _)), hc.mapDictKeys _, Obj.data_mapDictKeys hd _, hk.push hkey _, ?_, ?_⟩ (Heap.SameBut.update ..))
    · rw [stored, if_neg hany]
      have := hp.append hkey ((mixKind prog w).hash k) v
      obtain ⟨l⟩ := es
      simpa using this
    · rw [stored, if_neg hany, List.map_append, List.nodup_append]
      refine ⟨hn, by simp, ?_⟩
      intro a ha b hb
      simp only [List.map_cons, List.map_nil, List.mem_singleton] at hb
      subst hb
      exact fun e => hnot (e ▸ ha)
theorem mergeMapping_mix {d a : Addr} {kvs more : List (Key × Value)} {Q : Unit → Shared → Prop} (hda : d ≠ a) (hS : (a == sysModules) = false) (hd : s.heap.DictOf (mixKind prog w) d kvs) (ha : s.heap.DictOf (mixKind prog w) a more)
    (hQ : ∀ h', h'.DictOf (mixKind prog w) d (merged kvs more) → Heap.SameBut d s.heap h' → Q () { s with heap := h' }) (hsz : kvs.length + more.length ≤ sizeLine) :
    wpAny (model prog w) A (mergeMapping d (.ref a) false) Q E s := by
  obtain ⟨od, esd, epd, hod, hcd, hdd, hkd, hpd, hnd⟩ := id hd
  obtain ⟨oa, esa, epa, hoa, hca, hdo, hka, hpa, hna⟩ := id ha
  have hlen : more.length = esa.size := by rw [← hpa.length]; simp
  unfold mergeMapping
  refine wpAny_bind (wpAny_isInstance (T := "dict") ha.typeIs PySem.F.sub_dict_dict ?_)
  rw [if_pos rfl]
  refine wpAny_bind (wpAny_specialOf ha.typeIs PySem.F.slot_dict_iter.lookup ?_)
  refine wpAny_bind (wpAny_pure ?_)
  show wpAny (model prog w) A (if (a == sysModules) = true then _ else _) Q E s
  rw [if_neg (show ¬ (a == sysModules) = true by rw [hS]; exact Bool.false_ne_true)]
  refine wpAny_bind (wpAny_dictEntries hod hdd ?_)
  have main : wpAny (model prog w) A (do
        let l ← dictEntries a
        let epoch ← dictEpoch a
        forIn (List.range l.size) PUnit.unit fun i (_ : PUnit) => (do
            let l' ← dictEntries a
            match l'[i]? with
              | some e => do
                holding [e.key, e.val] (dictPut d e.hash e.key e.val)
                let ep' ← dictEpoch a
                if (ep' != epoch) = true then do
                    (unsupported "dict.changed-during-merge" : Sem PUnit)
                    pure (ForInStep.yield PUnit.unit)
                  else pure (ForInStep.yield PUnit.unit)
              | _ => do
                (unsupported "dict.changed-during-merge" : Sem PUnit)
                pure (ForInStep.yield PUnit.unit) : Sem (ForInStep PUnit))
        pure ()) Q E s := by
    refine wpAny_bind (wpAny_dictEntries hoa hdo ?_)
    refine wpAny_bind (wpAny_dictEpoch hoa hdo ?_)
    refine wpAny_bind ?_
    refine wpAny_forIn_list _
      (fun rest _ s' => ∃ h' i, s' = { s with heap := h' } ∧ rest = List.range' i (esa.size - i) ∧ i ≤ esa.size ∧ h'.DictOf (mixKind prog w) d (merged kvs (more.take i)) ∧ h'.get? a = some oa ∧ Heap.SameBut d s.heap h')
      _ ?_ ?_ _ _ ⟨s.heap, 0, rfl, by rw [List.range_eq_range']; rfl, Nat.zero_le _, by simpa [merged] using hd, hoa, Heap.SameBut.refl _ _⟩
    · rintro x rest b s' ⟨h', i, rfl, hr, hi, hd', hoa', hs'⟩
      have hlt : i < esa.size := by
        rcases Nat.lt_or_ge i esa.size with h | h
        · exact h
        · rw [Nat.sub_eq_zero_of_le h] at hr; simp at hr
      obtain ⟨rfl, hrest⟩ : x = i ∧ rest = List.range' (i + 1) (esa.size - (i + 1)) := by
        have e : esa.size - i = (esa.size - (i + 1)) + 1 := by omega
        rw [e, List.range'_succ] at hr
        injection hr with h1 h2
        exact ⟨h1, h2⟩
      refine wpAny_bind (wpAny_dictEntries hoa' hdo ?_)
      rw [Array.getElem?_eq_getElem hlt]
      obtain ⟨kv, hkv⟩ : ∃ kv, more[x]? = some kv := ⟨more[x]'(by rw [hlen]; exact hlt), List.getElem?_eq_getElem _⟩
      obtain ⟨k, v⟩ := kv
      obtain ⟨hkey, hval⟩ := hpa.get? (e := esa[x]) (by simp [hlt]) hkv
      obtain ⟨k', hkey', hhash⟩ := hka esa[x] (Array.getElem_mem hlt)
      obtain rfl : k' = k := (mixKind prog w).inj _ _ _ hkey' hkey
      show wpAny _ _ (holding [esa[x].key, esa[x].val] (dictPut d esa[x].hash esa[x].key esa[x].val) >>= _) _ _ _
      rw [hhash, hval]
      have hmx : (merged kvs (more.take x)).length ≤ sizeLine := by
        have q := merged_length_le kvs (more.take x)
        rw [List.length_take] at q
        omega
      refine wpAny_bind (wpAny_holding (dictPut_mix (s := { s with heap := h' }) hkey hd' (fun h2 hd2 hs2 => ?_) hmx))
      have hoa2 : h2.get? a = some oa := (hs2.2 a (Ne.symm hda)).trans hoa'
      refine wpAny_bind (wpAny_dictEpoch (s := { s with heap := h2 }) hoa2 hdo ?_)
      rw [if_neg (by simp)]
      refine wpAny_pure ⟨h2, x + 1, rfl, hrest, hlt, ?_, hoa2, hs'.trans hs2⟩
      rw [merged_take_succ _ _ _ _ hkv]
      exact hd2
    · rintro b s' ⟨h', i, rfl, hr, hi, hd', hoa', hs'⟩
      have e : i = esa.size := by
        rcases Nat.lt_or_ge i esa.size with h | h
        · have e : esa.size - i = (esa.size - (i + 1)) + 1 := by omega
          rw [e, List.range'_succ] at hr; exact nomatch hr
        · exact Nat.le_antisymm hi h
      rw [e, ← hlen, List.take_length] at hd'
      exact wpAny_pure (hQ h' hd' hs')
  by_cases hz : esd.isEmpty = true
  · rw [if_pos hz]
    refine wpAny_bind (wpAny_dictEntries hoa hdo ?_)
    refine wpAny_bind ?_
    rw [← Array.forIn_toList]
    refine wpAny_forIn_list _ (fun rest _ s' => s' = s ∧ ∀ e ∈ rest, e ∈ esa.toList) _ ?_ ?_ _ _ ⟨rfl, fun e he => he⟩
    · rintro e rest b s' ⟨rfl, hm⟩
      obtain ⟨k', hkey', _⟩ := hka e (by simpa using hm e List.mem_cons_self)
      have nr : ∀ z, e.key ≠ Value.ref z := fun z q => by
        rw [q] at hkey'
        rcases keyIs_shape (k := k') hkey' with ⟨i, t, _, q⟩ | ⟨y, t, _, q⟩
        · cases q
        · cases q
      cases hk : e.key with
      | ref z => exact absurd hk (nr z)
      | _ => exact wpAny_pure ⟨rfl, fun e he => hm e (List.mem_cons_of_mem _ he)⟩
    · rintro b s' ⟨rfl, _⟩
      exact main
  · rw [if_neg hz]
    exact main
theorem disp_two {k v0 v : Expr} {env : Env} {pos : Pos} {Q : Value → Shared → Prop}
    (h : wpAny (model prog w) A (eval v0 env) (fun m s1 => wpAny (model prog w) A (mergeMapping s.heap.objs.size m false) (fun _ s2 =>
      wpAny (model prog w) A (subDict [(eval k env, do let x ← eval v env; standAt pos; pure x)]) (fun sub s3 => wpAny (model prog w) A (mergeMapping s.heap.objs.size (.ref sub) false) (fun _ s4 => Q (.ref s.heap.objs.size) s4)
        (fun _ _ => False) s3) E s2) (fun _ _ => False) s1) E { s with heap := s.heap.push { cls := .type "dict", data := .dict #[] } }) :
    wpAny (model prog w) A (eval (.Dict [none, some k] [v0, v] pos) env) Q E s := by
  rw [PySem.arm_eval_Dict]
  refine wpAny_bind (wpAny_standAt ?_)
  unfold dictDisplay
  show wpAny _ _ (forIn [(none, do let x ← eval v0 env; standAt pos; pure x), (some (eval k env), do let x ← eval v env; standAt pos; pure x)] (none, []) _ >>= _) _ _ _
  rw [List.forIn_cons]
  refine wpAny_bind (wpAny_bind (wpAny_bind (wpAny_pure ?_)))
  refine wpAny_bind (wpAny_alloc ?_)
  refine wpAny_bind (wpAny_holding (wpAny_bind (wpAny_mono h (fun m s1 h1 => ?_) fun _ _ e => e)))
  refine wpAny_bind (wpAny_standAt (wpAny_pure ?_))
  refine wpAny_bind (wpAny_onRaise (wpAny_tryCatch (wpAny_onRaise (wpAny_holding (wpAny_mono h1 (fun _ s2 h2 => ?_) fun _ _ z => z.elim)))))
  refine wpAny_pure ?_
  show wpAny _ _ (forIn [(some (eval k env), do let x ← eval v env; standAt pos; pure x)] _ _) _ _ _
  rw [List.forIn_cons]
  refine wpAny_bind (wpAny_pure ?_)
  show wpAny _ _ (forIn [] _ _) _ _ _
  rw [List.forIn_nil]
  refine wpAny_pure ?_
  refine wpAny_bind ?_
  show wpAny _ _ (if [(eval k env, do let x ← eval v env; standAt pos; pure x)].isEmpty = true then _ else _) _ _ _
  rw [if_neg (by simp)]
  refine wpAny_bind (wpAny_holding (wpAny_mono h2 (fun sub s3 h3 => ?_) fun _ _ e => e))
  refine wpAny_bind (wpAny_onRaise (wpAny_holding (wpAny_mono h3 (fun _ s4 h4 => ?_) fun _ _ z => z.elim)))
  exact wpAny_pure (wpAny_pure h4)
end
/-- {**d, k: v}: p the new dict, q the one that is merged in last -/
def tMerge (td tk tv : TE) : TE := fun σ H Q => ∀ p, H p = none → td σ (upd H p (.dK [])) fun x H1 => ∃ a kvs, x = .ref a ∧ Rd H1 a (.dK kvs) ∧ p ≠ a ∧ H1 p = some (.dK []) ∧
  ∀ q, upd H1 p (.dK kvs) q = none → tk σ (upd (upd H1 p (.dK kvs)) q (.dK [])) fun y H2 => tv σ H2 fun z H3 => ∃ k, y = kV k ∧ H3 q = some (.dK []) ∧ H3 p = some (.dK kvs) ∧ p ≠ q ∧ kvs.length + 1 ≤ sizeLine ∧
    Q (.ref p) (upd (upd H3 q (.dK [(k, z)])) p (.dK (putK kvs k z)))
theorem pe_dmerge {X : Cx} {k v0 v : Expr} {td tk tv : TE} {pos : Pos} (hd : PE X v0 td) (hk : PE X k tk) (hv : PE X v tv) : PE X (.Dict [none, some k] [v0, v] pos) (tMerge td tk tv) := by
  refine ⟨fun pins s σ H Q I h => ?_⟩
  have hn := I.hok.fresh (Nat.le_refl s.heap.objs.size)
  have I1 := I.laid (a := s.heap.objs.size) (o := .dK []) (h' := s.heap.push { cls := .type "dict", data := .dict #[] }) (t' := s.toks) (fun _ _ q => Heap.get?_push_of_some _ q) (Nat.le_refl _) (dk_empty s.heap I.big)
  refine disp_two (thn (hd.run pins _ σ _ _ I1 (h _ hn)) fun m s1 ⟨x, H1, I2, rx, a, kvs, ex, ha, hpa, hp, q1⟩ => ?_)
  subst ex
  obtain rfl : m = Value.ref a := rx
  obtain ⟨zp, sp, vp, rp, dp⟩ := dk_of I2.hok hp
  cases rp
  obtain ⟨za, sa, va, ra, da⟩ := dk_rd I2.hok ha
  have zv : va.length ≤ sizeLine := by rw [← ra.length]; exact za
  obtain ⟨hp1, g1, d1, t1, o1⟩ := s1
  refine mergeMapping_mix hpa sa dp da (fun h' dd hs => ?_) (by simpa using zv)
  have nod : (va.map (·.1)).Nodup := da.choose_spec.choose_spec.choose_spec.2.2.2.2.2
  rw [merged_nil_of_nodup _ nod] at dd
  have ex' : ∃ q, h'.get? s.heap.objs.size = some q := let ⟨q, _, _, hq, _⟩ := dd; ⟨q, hq⟩
  have I3 : Inv X pins σ (upd H1 s.heap.objs.size (.dK kvs)) ⟨h', g1, d1, t1, o1⟩ := d_write (t' := t1) I2 (by rw [hp]; exact True.intro) hs ex' (dk_new za sp ra dd)
  have hn3 := I3.hok.fresh (Nat.le_refl h'.objs.size)
  have I4 := I3.laid (a := h'.objs.size) (o := .dK []) (h' := h'.push { cls := .type "dict", data := .dict #[] }) (t' := t1) (fun _ _ q => Heap.get?_push_of_some _ q) (Nat.le_refl _) (dk_empty h' I3.big)
  refine wpAny_subDict (knd := mixKind X.prog X.w) (Nat.le_of_ble_eq_true rfl) (evalPairs_cons (thn (hk.run pins _ σ _ _ I4 (q1 _ hn3)) fun kv s4 ⟨y, H2, I5, ry, q2⟩ => wpAny_bind (thn (hv.run pins s4 σ H2 _ I5 q2) fun vv s5 ⟨z, H3, I6, rz, k', ey, hq, hp3, hpq, hl, q3⟩ => wpAny_bind (wpAny_standAt (wpAny_pure (evalPairs_nil ?_))))))
  subst ey
  obtain ⟨zq, sq, vq, rq, dq⟩ := dk_of I6.hok hq
  cases rq
  obtain ⟨h5, g5, d5, t5, o5⟩ := s5
  refine ⟨[(k', vv)], ⟨kV_is ry, rfl, True.intro⟩, dq, fun h6 dd6 hs6 => ?_⟩
  have r6 : KV [(k', z)] (merged [] [(k', vv)]) := by
    have : merged [] [(k', vv)] = [(k', vv)] := rfl
    rw [this]
    exact .cons ⟨rfl, rz⟩ .nil
  have ex6 : ∃ q, h6.get? h'.objs.size = some q := let ⟨q, _, _, hq, _⟩ := dd6; ⟨q, hq⟩
  have I7 : Inv X pins σ (upd H3 h'.objs.size (.dK [(k', z)])) ⟨h6, g5, d5, t5 + 1, o5⟩ := d_write (t' := t5 + 1) I6 (by rw [hq]; exact True.intro) hs6 ex6 (dk_new (by rw [sizeLine_eq]; exact Nat.le_of_ble_eq_true rfl) sq r6 dd6)
  have hp7 : upd H3 h'.objs.size (.dK [(k', z)]) s.heap.objs.size = some (.dK kvs) := by rw [upd_ne hpq]; exact hp3
  obtain ⟨zp7, sp7, vp7, rp7, dp7⟩ := dk_of I7.hok hp7
  have zl : vp7.length + 1 ≤ sizeLine := by rw [← rp7.length]; exact hl
  refine mergeMapping_mix (s := ⟨h6, g5, d5, t5 + 1, o5⟩) hpq sq dp7 dd6 (fun h8 dd8 hs8 => ?_) (by simpa [merged, stored] using zl)
  have r8 : KV (putK kvs k' z) (merged vp7 (merged [] [(k', vv)])) := by
    have : merged vp7 (merged [] [(k', vv)]) = stored vp7 k' vv := rfl
    rw [this]
    exact rp7.put k' rz
  have ex8 : ∃ q, h8.get? s.heap.objs.size = some q := let ⟨q, _, _, hq, _⟩ := dd8; ⟨q, hq⟩
  have lz : (putK kvs k' z).length ≤ sizeLine := Nat.le_trans (length_putK kvs k' z) hl
  exact ⟨.ref s.heap.objs.size, _, d_write (t' := t5 + 1) I7 (by rw [hp7]; exact True.intro) hs8 ex8 (dk_new lz sp7 r8 dd8), rfl, q3⟩
end K7

set_option Elab.async false
set_option linter.all false
set_option maxRecDepth 100000
set_option maxHeartbeats 4000000
/-! try with several except clauses, each with a name of its own or without one. -/
namespace K7
open PySem PySem.Spec PyProof.Rows L2
/-- a clause's slot: the name's, where it has one -/
def setO (σ : St) (io : Option Nat) (a : Addr) : St := match io with
  | some i => σ.set i (some (.ref a))
  | none => σ
def gone (io : Option Nat) (σ : St) : St := match io with
  | some i => σ.set i none
  | none => σ
def goneE (io : Option Nat) (D : Ends) : Ends := { nx := fun σ H => D.nx (gone io σ) H, rt := D.rt, bk := fun σ H => D.bk (gone io σ) H, ct := fun σ H => D.ct (gone io σ) H }
abbrev Clause := Value × Option Nat × (Addr → Value → Option Addr → TS)
/-- what the clauses wish of an exception of the body, one after the other -/
def wMix (K : PySem.W.Frag) (Wout : WX) (D : Ends) : List Clause → WX
  | [] => Wout
  | (c, io, ts) :: r => fun cls d σ H => ∃ b, PySem.W.exmOne K cls c = some b ∧ (b = true → ∀ a, H a = none → ts a cls d (goneE io D) (setO σ io a) H) ∧ (b = false → wMix K Wout D r cls d σ H)
inductive HdMix (X : Cx) : List ExceptHandler → List Clause → Prop
  | nil : HdMix X [] []
  | cons {x : Str} {no : Option Str} {io : Option Nat} {c : Value} {ts : Addr → Value → Option Addr → TS} {b₀ : Stmt} {suite : List Stmt} {np pos' : Pos} {hds : List ExceptHandler} {l : List Clause} (hc : Names X x c)
      (hn : (no = none ∧ io = none) ∨ ∃ n i, no = some n ∧ io = some i ∧ X.N[i]? = some n ∧ X.env.kindOf n = some .local)
      (hsu : ∀ (a : Addr) (oe : Obj) (cls : Value) (d : Option Addr) (pn : List (Addr × Obj)), Zc cls d oe → (∃ vs, oe.data = .fields vs) → PSs (X.suite a ((a, oe) :: pn)) (b₀ :: suite) (ts a cls d)) (r : HdMix X hds l) :
      HdMix X (.ExceptHandler (some (.Name x np)) no (b₀ :: suite) pos' :: hds) ((c, io, ts) :: l)
section
variable {X : Cx} {body : List Stmt} {h₀ : ExceptHandler} {hds : List ExceptHandler} {l : List Clause} {pos : Pos} {tb : WX → TS} {Wout : WX}
theorem ps_try_mix (hs : X.stack = X.env :: X.outer) (hf : X.env.frame = some X.env.locals) (hN : X.N.Nodup) (tk : Takes X Wout)
    (hb : ∀ (W : WX) (pn : List (Addr × Obj)) (xe : Value → Shared → Prop), Takes (X.tr pn xe) W → PassesOwn (model X.prog X.w) X.A X.env xe → PSs (X.tr pn xe) body (tb W))
    (hh : HdMix X (h₀ :: hds) l) : PS X (.Try body (h₀ :: hds) [] [] pos) (fun D σ H => tb (wMix X.K Wout D l) D σ H) := by
  refine ⟨fun pins s σ H D I h => ?_⟩
  have ok := I.ok
  have hfr : X.A.frames = some (X.env :: X.outer) := by rw [ok.frames, hs]
  refine wpAny_Try_except ?_
  have body1 := (hb (wMix X.K Wout D l) (X.pn ++ pins) (fun e s₁ => wpAny (model X.prog X.w) X.A (noteFrame e X.env) (fun _ s₂ => wpAny (model X.prog X.w) X.A (setFlight e none) (fun _ s₃ =>
    wpAny (model X.prog X.w) X.A (handleBy e X.env (h₀ :: hds)) (SP X pins D) X.xe s₃) X.xe s₂) X.xe s₁) (fun u s' xx => ?ctch) PassesOwn.looking).run [] s σ H D (I.toTry _) h
  case ctch =>
    obtain ⟨a, B, sI, pins', σ', H', cls, d, rfl, J', nb, up, sky, na, os, ag, w⟩ := xx
    have J : Inv X pins σ' H' sI := J'.ofTry ok
    have sky' : Sky B (X.env :: X.outer) a (Zc cls d) X.env.locals s'.heap := by rw [← hs]; exact sky
    show wpAny (model X.prog X.w) X.A (noteFrame (.ref a) X.env) _ _ _
    refine Sky.land Zc.steady hfr hf sky' fun h3 fl3 up3 => ?_
    have J3 : Inv X pins σ' H' { s' with heap := h3 } := J.landed nb fl3.1 (up.trans up3) os ag
    obtain ⟨oe3, vs3, he3, hz3, hd3⟩ := fl3.there
    have nfr : a ∉ frs (X.env :: X.outer) := fun hm => by
      obtain ⟨_, o', e', hnf⟩ := fl3.2.2.1.mem hm
      rw [he3] at e'; cases e'
      exact hnf _ hd3
    have nL : a ≠ X.env.locals := fun z => nfr (List.mem_filterMap.mpr ⟨X.env, List.mem_cons_self, by rw [hf, z]⟩)
    have nF : a ∉ X.fs := fun hm => by
      obtain ⟨e, he, q⟩ := List.mem_filterMap.mp hm
      exact nfr (List.mem_filterMap.mpr ⟨e, List.mem_cons_of_mem _ he, q⟩)
    have S3 := J3.suite he3 hd3 na nL nF
    have LT : PySem.W.Looks (model X.prog X.w) h3 (typeOf (.ref a)) cls := fun A Q E s k q => wpAny_typeOf_ref (k _ _ he3) (by rw [hz3.1]; exact q)
    have go : ∀ {hs' : List ExceptHandler} {l' : List Clause}, HdMix X hs' l' → wMix X.K Wout D l' cls d σ' H' →
        wpAny (model X.prog X.w) X.A (handleBy (.ref a) X.env hs') (SP X pins D) X.xe { s' with heap := h3 } := by
      intro hs' l' hk
      induction hk with
      | nil =>
        intro w
        refine wpAny_handleBy_nil ?_
        obtain ⟨k1, k2, k3, oe, vs, T, oT, ts', he, hz, hd, h1, hr⟩ := id fl3
        unfold PySem.passOn
        refine wpAny_bind (wpAny_field he hd h1 ?_)
        rw [if_neg (show ¬ ((Value.ref T == Value.none) = true) from by simp)]
        have fin : wpAny (model X.prog X.w) X.A (setFlight (.ref a) X.env.frame) (fun _ s4 => wpAny (model X.prog X.w) X.A (throw (.ref a) : Sem Flow) (SP X pins D) X.xe s4) X.xe { s' with heap := h3 } := by
          rw [hf]
          refine HandSPX.setFlight_upZ fl3 fun h4 hh4 up4 => wpAny_throw (tk _ _ ?_)
          exact ⟨a, B, sI, pins, σ', H', cls, d, rfl, J, nb, (up.trans up3).trans up4, .inr (.inr (by rw [hs]; exact hh4)), na, os, ag, w⟩
        first
          | exact wpAny_bind (wpAny_pure (wpAny_bind fin))
          | exact wpAny_bind fin
      | @cons x no io c ts b₀ suite np pos' hds2 l2 hc hn hsu r ih =>
        intro w
        obtain ⟨b, hb1, hyes, hno⟩ := w
        refine wpAny_handleBy_cons (codeAny_handlers_test ?_) (by intro q; cases q)
        have LM := PySem.W.exm_one (M := model X.prog X.w) (J3.kIn) LT hb1
        have test : ∀ {Q : Value → Shared → Prop} {E : Value → Shared → Prop}, Q c { s' with heap := h3 } → wpAny (model X.prog X.w) (X.A.mark (some (.ref a))) (eval (.Name x np) X.env) Q E { s' with heap := h3 } := fun {Q E} q => by
          obtain ⟨hg, hdbg, hm | ⟨hm, hv, hnn⟩⟩ := hc
          · exact ld_glob (X := X.suite a ((a, oe3) :: (X.pn ++ pins))) S3 hg hm q hdbg
          · exact ld_blt (X := X.suite a ((a, oe3) :: (X.pn ++ pins))) S3 hg hm hv q hnn hdbg
        refine test (LM.here ?_)
        cases b with
        | true =>
          rcases hn with ⟨rfl, rfl⟩ | ⟨n, i, rfl, rfl, hi, hln⟩
          · refine codeAny_handlers_suite ?_
            refine HandSPX.lands_againZ fl3 fun h4 fl4 up4 => ?_
            have J4 : Inv X pins σ' H' { s' with heap := h4 } := J.landed nb fl4.1 ((up.trans up3).trans up4) os ag
            obtain ⟨oe4, vs4, he4, hz4, hd4⟩ := fl4.there
            have S4 := J4.suite he4 hd4 na nL nF
            refine wpAny_mono ((hsu a oe4 cls d (X.pn ++ pins) hz4 ⟨_, hd4⟩).run [] _ _ H' _ S4 (hyes rfl a na)) (fun f s6 hsp => ?_) (fun _ _ z => False.elim z)
            cases f with
            | next =>
              obtain ⟨σ6, H6, S6, q6⟩ := hsp
              exact ⟨_, _, S6.unsuite ok, q6⟩
            | brk =>
              obtain ⟨σ6, H6, S6, q6⟩ := hsp
              exact ⟨_, _, S6.unsuite ok, q6⟩
            | cont =>
              obtain ⟨σ6, H6, S6, q6⟩ := hsp
              exact ⟨_, _, S6.unsuite ok, q6⟩
            | ret u =>
              obtain ⟨v6, σ6, H6, S6, r6, q6⟩ := hsp
              exact ⟨_, _, _, S6.unsuite ok, r6, q6⟩
          · refine codeAny_handlers_suite_as ?_
            refine HandSPX.lands_againZ fl3 fun h4 fl4 up4 => ?_
            have J4 : Inv X pins σ' H' { s' with heap := h4 } := J.landed nb fl4.1 ((up.trans up3).trans up4) os ag
            obtain ⟨oe4, vs4, he4, hz4, hd4⟩ := fl4.there
            have S4 := J4.suite he4 hd4 na nL nF
            refine store_ok (X := X.suite a ((a, oe4) :: (X.pn ++ pins))) (v := .ref a) S4 hN hi (.inl hln) rfl (fun s5 S5 => ?_) (.inr hln)
            refine wpAny_mono ((hsu a oe4 cls d (X.pn ++ pins) hz4 ⟨_, hd4⟩).run [] s5 _ H' _ S5 (hyes rfl a na)) (fun f s6 hsp => ?_) (fun _ _ z => False.elim z)
            have end_ : ∀ {σ6 : St} {H6 : Hp} {Q : Shared → Prop}, Inv (X.suite a ((a, oe4) :: (X.pn ++ pins))) [] σ6 H6 s6 → (∀ s7, Inv X pins (σ6.set i none) H6 s7 → Q s7) →
                wpAny (model X.prog X.w) X.A (do bindName X.env n .none; unbindBehindTheSuite X.env n pos') (fun _ s7 => Q s7) X.xe s6 := fun {σ6 H6 Q} S6 hq => gone_ok (S6.unsuite ok) hN hi hln hq
            cases f with
            | next =>
              obtain ⟨σ6, H6, S6, q6⟩ := hsp
              exact end_ S6 fun s7 J7 => ⟨_, _, J7, q6⟩
            | brk =>
              obtain ⟨σ6, H6, S6, q6⟩ := hsp
              exact end_ S6 fun s7 J7 => ⟨_, _, J7, q6⟩
            | cont =>
              obtain ⟨σ6, H6, S6, q6⟩ := hsp
              exact end_ S6 fun s7 J7 => ⟨_, _, J7, q6⟩
            | ret u =>
              obtain ⟨v6, σ6, H6, S6, r6, q6⟩ := hsp
              exact end_ S6 fun s7 J7 => ⟨_, _, _, J7, r6, q6⟩
        | false =>
          show wpAny _ X.A (handleBy (.ref a) X.env hds2) _ _ _
          exact ih (hno rfl)
    exact go hh w
  refine wpAny_mono body1 (fun f s1 hsp => ?_) (fun e s1 he => he)
  cases f with
  | next =>
    obtain ⟨σ', H', J', q⟩ := hsp
    exact wpAny_execs_nil ⟨σ', H', J'.ofTry ok, q⟩
  | brk =>
    obtain ⟨σ', H', J', q⟩ := hsp
    exact ⟨σ', H', J'.ofTry ok, q⟩
  | cont =>
    obtain ⟨σ', H', J', q⟩ := hsp
    exact ⟨σ', H', J'.ofTry ok, q⟩
  | ret u =>
    obtain ⟨v, σ', H', J', r, q⟩ := hsp
    exact ⟨v, σ', H', J'.ofTry ok, r, q⟩
end
end K7

set_option Elab.async false
set_option linter.all false
set_option maxRecDepth 100000
set_option maxHeartbeats 4000000
/-! Own exceptions whose own method for making says super().__init__('..'), then stores one field; over any built-in base. -/
namespace K7
open PySem PySem.HandSPX PySem.Builtin PySem.Builtin.ObjectAttr
/-! ### a class over classes over a built-in error: made -/
/-- what stands behind the class itself in its order: bm; Bn: who owns the maker -/
structure XTail (C : Addr) (Bn : String) (bm : List Value) : Prop where
  hB : bm.contains (.type Bn) = true
  hA : bm.contains (.type "AttributeError") = false
  hN : bm.contains (.type "NameError") = false
  hO : bm.contains (.type "object") = true
  ps : ∀ self : Value, refuseLoop self "__setattr__" (.ref C :: bm) = pure ()
section
variable {M : Model} {A : Around} {E : Value → Shared → Prop} {h : Heap} {g : Array GenState} {d : Drawn} {t : Nat} {os : OsState}
variable {nm q : Str} {C N : Addr} {bs bm bmB : List Value} {hdct : Bool} {sn : List Str} {sub : List Value} {ab : Bool} {col : Option Bool} {dd : Option Addr} {k0 k1 k2 k3 k5 : Option Value} {B newId initId : String}
theorem xnew_check (F : ExcBaseFacts B newId initId bmB) (T : XTail C B bm) {rest : List Value} {Q : Unit → Shared → Prop}
    (hC : h.get? C = some (excClassObj nm q C N bs bm hdct sn sub ab col dd k0 k1 k2 k3 k5 newId)) (hq : Q () ⟨h, g, d, t, os⟩) : wpAny M A (checkBuiltinCall newId ⟨.ref C :: rest, []⟩) Q E ⟨h, g, d, t, os⟩ := by
  have hcont : (Value.ref C :: bm).contains (.type B) = true := by rw [List.contains_cons, T.hB, Bool.or_true]
  have hstar := F.noStar
  simp only [checkBuiltinCall, F.newKind, F.newSplit, F.newRow]
  repeat (first | refine wpAny_loadPart_at hC ?_ | (refine wpAny_isSubtype_exc hC ?_; rw [hcont]) | refine wpAny_staticBase_exc hC ?_ | refine wpAny_madeBy_exc hC ?_ | simp only [bne_self_eq_false, Bool.false_eq_true, if_false] | wp_step)
  exact hq
end
section
variable {prog : Program} {w : World} {A : Around} {E : Value → Shared → Prop} {R : Result → Shared → Prop} {h : Heap} {g : Array GenState} {d : Drawn} {t : Nat} {os : OsState}
variable {nm q : Str} {C N : Addr} {bs bm bmB : List Value} {hdct : Bool} {sn : List Str} {sub : List Value} {ab : Bool} {col : Option Bool} {dd : Option Addr} {k0 k1 k2 k3 k5 : Option Value} {B newId initId : String}
theorem xnew_own (F : ExcBaseFacts B newId initId bmB) (T : XTail C B bm) {rest : List Value}
    (hC : h.get? C = some (excClassObj nm q C N bs bm hdct sn sub ab col dd k0 k1 k2 k3 k5 newId))
    (hq : R (.ok (.ret (.ref (h.objs.size + 1)))) ⟨(h.push (W.kdv_tup rest)).push (excO C h.objs.size), g, d, t, os⟩) (hrest : rest.length ≤ sizeLine) :
    codeAny (model prog w) A (.builtin newId ⟨.ref C :: rest, []⟩) R ⟨h, g, d, t, os⟩ := by
  have hends := F.ends
  have hcB : (Value.ref C :: bm).contains (.type B) = true := by rw [List.contains_cons, T.hB, Bool.or_true]
  have hcA : (Value.ref C :: bm).contains (.type "AttributeError") = false := by rw [List.contains_cons, T.hA]; rfl
  have hcN : (Value.ref C :: bm).contains (.type "NameError") = false := by rw [List.contains_cons, T.hN]; rfl
  refine codeAny_builtinAt F.entry ?_
  unfold Builtin.«BaseException.__new__»
  refine wpAt_bind ?_
  show wpAt _ _ _ (stack >>= _) _ _ _
  refine wpAt_bind (wpAt_stack fun p below => wpAt_of_wpAny ?_)
  wp_walk
  refine wpAt_of_wpAny ?_
  rw [F.owner]
  repeat (first | with_reducible refine wpAny_madeHere_exc F.canon hC ?_ | with_reducible refine wpAny_loadPart_at hC ?_ | (with_reducible refine wpAny_isSubtype_exc hC ?_; first | rw [hcB] | rw [hcA] | rw [hcN]) | wp_step)
  show R _ _
  rw [Heap.size_push]
  exact hq
theorem xtype_call (F : ExcBaseFacts B newId initId bmB) (T : XTail C B bm) {rest : List Value} {fI : Addr} {Q : Fin → Shared → Prop}
    (hC : h.get? C = some (excClassObj nm q C N bs bm hdct sn sub ab col dd k0 k1 k2 k3 k5 newId))
    (hi : W.Looks (model prog w) h (typeLookup (.ref C) "__init__") (some (.ref fI))) (hb : ∀ self, W.Looks (model prog w) h (bindSpecial (.ref fI) self) (.ref fI, [self])) (hrest : rest.length ≤ sizeLine)
    (hq : codeAny (model prog w) A (.call (.ref fI) ⟨.ref (h.objs.size + 1) :: rest, []⟩)
      (fun r s' => match r with | .ok (.ret v) => v = .none ∧ Q (.done (.ret (.ref (h.objs.size + 1)))) s' | .ok _ => False | .error e => E e s')
      ⟨(h.push (W.kdv_tup rest)).push (excO C h.objs.size), g, d, t, os⟩) :
    wpAny (model prog w) A (Builtin.«type.__call__» ⟨.ref C :: rest, []⟩) Q E ⟨h, g, d, t, os⟩ := by
  repeat (first | with_reducible refine wpAny_loadPart_at hC ?_ | with_reducible refine wpAny_madeBy_exc hC ?_ | wp_step)
  refine codeAny_call_builtin_code (Code.quiet_builtin _ F.quiet) (xnew_check F T hC ?_)
  refine xnew_own F T hC ?_ hrest
  show wpAny _ _ _ _ _ _
  have k : ∀ b o, h.get? b = some o → ((h.push (W.kdv_tup rest)).push (excO C h.objs.size)).get? b = some o := fun b o e => Heap.get?_push_of_some _ (Heap.get?_push_of_some _ e)
  have hC1 := k _ _ hC
  have hget : ((h.push (W.kdv_tup rest)).push (excO C h.objs.size)).get? (h.objs.size + 1) = some (excO C h.objs.size) := by heap_get
  have hcC : (Value.ref C :: bm).contains (.ref C) = true := by simp
  have i1 := hi.keeps k
  have b1 := (hb (.ref (h.objs.size + 1))).keeps k
  unfold isInstance
  repeat (first | with_reducible refine wpAny_loadPart_at hget ?_ | (with_reducible refine wpAny_isSubtype_exc hC1 ?_; rw [hcC]) | wp_step)
  show wpAny _ _ (typeLookup (.ref C) _) _ _ _
  refine i1.at ?_
  refine wpAny_holding (wpAny_bind (b1.at ?_))
  refine wpAny_bind (wpAny_call (codeAny_mono hq fun r s' z => ?_))
  rcases r with e | (v | _ | _ | _) <;> first | exact z | exact z.elim | skip
  obtain ⟨rfl, z⟩ := z
  first
    | exact wpAny_pure (wpAny_pure z)
    | (wp_walk; exact z)
theorem xcall_own (F : ExcBaseFacts B newId initId bmB) (T : XTail C B bm) {rest : List Value} {fI : Addr}
    (hC : h.get? C = some (excClassObj nm q C N bs bm hdct sn sub ab col dd k0 k1 k2 k3 k5 newId))
    (hi : W.Looks (model prog w) h (typeLookup (.ref C) "__init__") (some (.ref fI))) (hb : ∀ self, W.Looks (model prog w) h (bindSpecial (.ref fI) self) (.ref fI, [self])) (hrest : rest.length ≤ sizeLine)
    (hq : codeAny (model prog w) (A.under (.builtin "type.__call__" ⟨.ref C :: rest, []⟩)) (.call (.ref fI) ⟨.ref (h.objs.size + 1) :: rest, []⟩) (W.InitBack (h.objs.size + 1) R)
      ⟨(h.push (W.kdv_tup rest)).push (excO C h.objs.size), g, d, t, os⟩) :
    codeAny (model prog w) A (.call (.ref C) ⟨rest, []⟩) R ⟨h, g, d, t, os⟩ := by
  have f1 := tc_lookup
  have f2 := tc_bind (.ref C)
  have hTy : (⟨h, g, d, t, os⟩ : Shared).TypeIs (.ref C) "type" := ⟨_, hC, rfl⟩
  refine codeAny_of_tree ?_
  show wpAny _ _ (callAny (.ref C) _) _ _ _
  repeat (any_goals (first | assumption | with_reducible refine wpAny_loadPart_at hC ?_ | wp_step))
  refine ⟨rfl, ?_⟩
  refine codeAny_call_builtin_at (Code.quiet_builtin _ (by decide +kernel)) entry_typeCall (wpAny_check_type_call_sub hC (xtype_call F T hC hi hb hrest ?_))
  refine codeAny_mono hq fun r s' z => ?_
  rcases r with e | (v | _ | _ | _) <;> exact z
end
/-! ### self.name = v on such an exception, which has no dict yet -/
section
variable {prog : Program} {w : World} {A : Around} {E : Value → Shared → Prop} {R : Result → Shared → Prop} {hp : Heap} {g : Array GenState} {d : Drawn} {t : Nat} {os : OsState}
theorem xosa {K : W.Frag} {name : Str} {tk : Tok} {v : Value} {x C : Addr} {Bn : String} {bm : List Value} {fv : Array Value} {cd : ClassData}
    (X : K.In hp) (hx : hp.get? x = some { cls := .ref C, data := .fields fv }) (hcd : W.clsIn K C = some cd) (hm : cd.mro = .ref C :: bm) (T : XTail C Bn bm) (hh : cd.hasDict = true) (ha : W.findIn K (.ref C) name = some none)
    (hq : ∀ h' tk' dx, (∀ b o, b ≠ x → hp.get? b = some o → h'.get? b = some o) → hp.objs.size ≤ dx → dx ≠ x → h'.get? x = some { cls := .ref C, dict := some dx, data := .fields fv } →
      h'.Ns1 dx (fun y => if y = name then some v else none) → R (.ok (.ret .none)) ⟨h', g, d, tk', os⟩) :
    codeAny (model prog w) A (.call (.builtin "object.__setattr__") ⟨[.ref x, .str name tk, v], []⟩) R ⟨hp, g, d, t, os⟩ := by
  have I : W.InstAt hp x { cls := .ref C, data := .fields fv } C none := ⟨hx, rfl, rfl, trivial⟩
  have SF := F.store_object
  have ne : cd.mro.isEmpty = false := by rw [hm]; rfl
  have hob : cd.mro.contains (.type "object") = true := by rw [hm, List.contains_cons, T.hO, Bool.or_true]
  have hxs : x ≠ hp.objs.size := Nat.ne_of_lt (Heap.lt_size hx)
  have sub : W.Looks (model prog w) hp (isInstance (.ref x) (.type "object")) true := I.type.andThen (W.looks_mroIn X (by unfold W.mroIn; rw [hcd, Option.bind_some, if_neg (by rw [ne]; decide), hob]))
  refine codeAny_call_builtin SF.slot.plain SF.entry (@W.check_slot (model prog w) _ _ ⟨hp, g, d, t, os⟩ "object.__setattr__" "object" "__setattr__" (.ref x) [.str name tk, v] [] _ SF.kind SF.split sub (SF.args (.ref x) (.str name tk) v) ?_)
  have hmr : W.Looks (model prog w) hp (mroOf (.ref C)) cd.mro := (W.looks_clsIn X hcd).andThen .now
  have L3 : W.Looks (model prog w) hp (storeTaker? none) none := .now
  have hcls : W.Looks (model prog w) hp (classData C) cd := W.looks_clsIn X hcd
  rw [W.osa_eq, refuse_eq]
  refine wpAny_bind (wpAny_bind (I.type.at (wpAny_bind (hmr.at ?_))))
  rw [hm, T.ps]
  refine wpAny_pure (wpAny_bind (I.type.at (wpAny_bind ((W.looks_findIn X ha).at (wpAny_bind (L3.at ?_))))))
  show wpAny _ _ (Builtin.ObjectAttr.storeInOwnDict (.ref x) (.ref C) (.str name tk) name v false) _ _ _
  obtain ⟨nm, bs, mro, ns, qn, hd, sn, sb, ab, col, del⟩ := cd
  dsimp only at hh
  subst hh
  unfold Builtin.ObjectAttr.storeInOwnDict Builtin.ObjectAttr.ownDictForStores
  repeat (first | with_reducible refine store_in_new ?_ ?_ | with_reducible refine wpAny_loadPart_at hx ?_ | with_reducible refine hcls.at ?_ | wp_step)
  · exact ⟨_, #[], _, (Heap.get?_update_ne _ _ _ _ hxs.symm).trans (Heap.get?_push_at rfl rfl), rfl, fun e he => absurd he (by simp), fun _ => rfl⟩
  · intro h' tk' hn' hs
    have hx1 : (hp.push { cls := .type "dict", data := .dict #[] }).get? x = some { cls := .ref C, data := .fields fv } := Heap.get?_push_of_some _ hx
    refine hq h' tk' hp.objs.size (fun b o hb ho => ?_) (Nat.le_refl _) hxs.symm ?_ hn'
    · exact (hs.2 b (Nat.ne_of_lt (Heap.lt_size ho))).trans ((Heap.get?_update_ne _ _ _ _ hb).trans (Heap.get?_push_of_some _ ho))
    · exact (hs.2 x hxs).trans (Heap.get?_update_self _ hx1 rfl)
end
end K7

set_option Elab.async false
set_option linter.all false
set_option maxRecDepth 100000
set_option maxHeartbeats 4000000
namespace K7
open PySem PySem.W PySem.Calls PySem.HandSPX
/-! ### the text of such a method: super().__init__(msg); self.f = f -/
def xA (f : Str) (p1 p2 : Pos) : Arguments := { posonlyargs := [], args := [{ arg := "self", annotation := none, pos := p1 }, { arg := f, annotation := none, pos := p2 }], vararg := none, kwonlyargs := [], kw_defaults := [], kwarg := none, defaults := [] }
def xB (f msg : Str) (q1 q2 q3 q4 q5 q6 q7 q8 q9 q10 : Pos) : List Stmt :=
  [.Expr (.Call (.Attribute (.Call (.Name "super" q1) [] [] q2) "__init__" q3) [.Constant (.str msg) 0 q4] [] q5) q6, .Assign [.Attribute (.Name "self" q7) f q8] (.Name f q9) q10]
def xS (f : Str) : Scope := { kind := .function, names := [(PySem.Str.ofString "self", .local), (f, .local), (PySem.Str.ofString "__class__", .free), (PySem.Str.ofString "super", .globalImplicit)], isGenerator := false, isCoroutine := false, more := [] }
/-- what is asked of the field's name -/
structure XName (f : Str) : Prop where
  loc : (xS f).names.lookup f = some .local
  bind : ∀ (qual msg : Str) (p1 p2 q1 q2 q3 q4 q5 q6 q7 q8 q9 q10 : Pos) (doc pm cdv ct : Value) (an : Option Addr) (cc : Addr) (a b : Value),
    bindArgs (ksFn "__init__" qual (xA f p1 p2) (xB f msg q1 q2 q3 q4 q5 q6 q7 q8 q9 q10) (xS f) .none .none doc pm an cdv ct cc) ⟨[a, b], []⟩ = pure [(PySem.Str.ofString "self", a), (f, b)]
  fr : (xS f).names.lookup (PySem.Str.ofString "__class__") = some .free
  su : (xS f).names.lookup (PySem.Str.ofString "super") = some .globalImplicit
  ns : f ≠ PySem.Str.ofString "self"
  nd : (f == ("__debug__" : Str)) = false
/-- the built-in base's own method for making, bound to the object -/
structure XIni (Bi initId : String) : Prop where
  kx : KxsFacts Bi initId
  ik : builtinKind initId = some .slot
  ir : Manifest.signature? initId = some ⟨.positional, "*", Bi, .self, [⟨"args", .varPos, false⟩]⟩
  ip : plainId initId = true
  ie : entryFor table initId = some Builtin.«BaseException.__init__»
  ns : (Bi != "*") = true
/-- what the written part says of the class (the global x, at C) and of its method at fI; f: the field -/
structure XTxt (prog : Program) (K : Frag) (mg : Str → Option Value) (x f : Str) (C fI : Addr) (Bi initId Bn newId : String) : Prop where
  gC : mg x = some (.ref C)
  cls : ∃ nm q N bs bm sn sub ab col dd k0 k1 k2 k3 k5, K.lookup C = some (excClassObj nm q C N bs bm true sn sub ab col dd k0 k1 k2 k3 k5 newId) ∧ XTail C Bn bm ∧ alongIn K "__init__" bm = some (some (.builtin initId))
  sa : findIn K (.ref C) "__setattr__" = some (some (.builtin "object.__setattr__"))
  ga : findIn K (.ref C) "__getattribute__" = some (some (.builtin "BaseException.__getattribute__"))
  gg : findIn K (.ref C) "__getattr__" = some none
  noN : findIn K (.ref C) f = some none
  iC : findIn K (.ref C) "__init__" = some (some (.ref fI))
  tC : typeIn K (.ref fI) = some (.type "function")
  kC : keepIn K (.ref C) = true
  exC : subIn K (.ref C) (.type "BaseException") = some true
  tyC : typeIn K (.ref C) = some (.type "type")
  hdC : hasDictIn K C = true
  sB : subIn K (.ref C) (.type Bi) = some true
  me : mroIn K C (.ref C) = some true
  op : nsIn K cStatics "thirdparty.any" = some none
  nsup : mg "super" = none
  top : (prog.main.scope.names.lookup ("super" : Str)).isSome = false
  fn : ∃ (oc : Value) (od : Option Addr) (doc pm : Value) (an : Option Addr) (cda : Addr) (ct : Value) (osl : Array (Option Value)) (cc : Addr) (qual msg : Str) (p1 p2 q1 q2 q3 q4 q5 q6 q7 q8 q9 q10 : Pos),
    K.lookup fI = some ⟨oc, od, .func (ksFn "__init__" qual (xA f p1 p2) (xB f msg q1 q2 q3 q4 q5 q6 q7 q8 q9 q10) (xS f) .none .none doc pm an (.ref cda) ct cc), osl⟩ ∧ codeIn K (.ref cda) qual = true ∧ (q3.endLine == q5.line) = true ∧
    (∃ (ccl : Value) (cdd : Option Addr) (vs : Array Value) (ccs : Array (Option Value)) (file : Str) (tf : Tok), K.lookup cda = some ⟨ccl, cdd, .fields vs, ccs⟩ ∧ vs[2]? = some (.str file tf) ∧ ((prog.main.file : Str) == file) = true) ∧
    ∃ (cl : Value) (cld : Option Addr) (csl : Array (Option Value)), K.lookup cc = some ⟨cl, cld, .cell (some (.ref C)), csl⟩
/-- what the method leaves of a fresh exception at x -/
structure XEnd (h h' : Heap) (x C dx : Addr) (f : Str) (v : Value) : Prop where
  keep : ∀ b o, b ≠ x → h.get? b = some o → h'.get? b = some o
  obj : ∃ t1 : Addr, h'.get? x = some { cls := .ref C, dict := some dx, data := .fields #[.ref t1, .none, .none, .none, .bool false, .none] }
  dbig : h.objs.size ≤ dx
  dne : dx ≠ x
  ns : h'.Ns1 dx (fun y => if y = f then some v else none)
section
variable {M : Model} {A : Around} {E : Value → Shared → Prop} {h : Heap} {g : Array GenState} {d : Drawn} {t : Nat} {os : OsState} {Bi initId newId : String}
theorem xcheck_bound (XI : XIni Bi initId) {nm q : Str} {C N e : Addr} {oe : Obj} {bs bm : List Value} {hdct : Bool} {sn : List Str} {sub : List Value} {ab : Bool} {col : Option Bool} {dd : Option Addr} {k0 k1 k2 k3 k5 : Option Value} {rest : List Value} {Q : Unit → Shared → Prop}
    (hC : h.get? C = some (excClassObj nm q C N bs bm hdct sn sub ab col dd k0 k1 k2 k3 k5 newId)) (he : h.get? e = some oe) (hcls : oe.cls = .ref C) (hq : Q () ⟨h, g, d, t, os⟩) : wpAny M A (checkBoundCall initId ⟨.ref e :: rest, []⟩) Q E ⟨h, g, d, t, os⟩ := by
  have hshort := XI.ns
  simp only [checkBoundCall, XI.ik, XI.ir]
  repeat (first | (with_reducible refine wpAny_loadPart_at he ?_; rw [hcls]) | with_reducible refine wpAny_loadPart_at hC ?_ | wp_step)
  refine wpAny_onRaise ?_
  rw [show ∀ (a b : String) (n : Nat), Bind.check ⟨.positional, "*", Bi, .self, [⟨"args", .varPos, false⟩]⟩ a b n (List.map (fun x => x.fst) ({ pos := Value.ref e :: rest } : Args).kw) = pure () from
    fun a b n => check_star_args _ _ _ _ _ _]
  exact wpAny_pure hq
end
section
variable {prog : Program} {w : World} {A : Around} {E : Value → Shared → Prop} {h : Heap} {g : Array GenState} {d : Drawn} {t : Nat} {os : OsState} {Bi initId newId : String}
theorem xbound_call (XI : XIni Bi initId) {nm q : Str} {C N x u t0 : Addr} {bs bm : List Value} {hdct : Bool} {sn : List Str} {sub : List Value} {ab : Bool} {col : Option Bool} {dd : Option Addr} {k0 k1 k2 k3 k5 : Option Value} {rest : List Value} {Q : Value → Shared → Prop}
    (hC : h.get? C = some (excClassObj nm q C N bs bm hdct sn sub ab col dd k0 k1 k2 k3 k5 newId)) (hx : h.get? x = some (excO C t0)) (hu : h.get? u = some (kxs_mw initId x)) (hz : rest.length ≤ sizeLine)
    (hq : ∀ h' t1, (∀ b o, b ≠ x → h.get? b = some o → h'.get? b = some o) → h'.get? x = some (excO C t1) → Q .none ⟨h', g, d, t, os⟩) : wpAny (model prog w) A (call (.ref u) rest) Q E ⟨h, g, d, t, os⟩ := by
  refine wpAny_call (codeAny_of_tree ?_)
  show wpAny _ A.in1 (callAny (.ref u) ⟨rest, []⟩) _ _ _
  simp only [callAny]
  refine wpAny_bind (wpAny_load hu ?_)
  simp only [kxs_mw, show (Value.type "method-wrapper" == Value.type "method" || Value.type "method-wrapper" == Value.type "builtin_function_or_method" || Value.type "method-wrapper" == Value.type "method-wrapper") = true by decide, if_true]
  refine KFB.if_so (by decide) ?_
  refine wpAny_bind (xcheck_bound XI hC hx rfl ?_)
  refine wpAny_bind (wpAny_pure (wpAny_pure ?_))
  refine ⟨plainId_quiet XI.ip _, codeAny_builtin XI.ie ?_⟩
  exact exc_init_tree (cls := .ref C) (t0 := t0) (dv := none) (c2 := .none) (c3 := .none) (b4 := .bool false) hx hz fun h' k e _ => hq h' _ k e
end
section
variable {prog : Program} {w : World} {A : Around} {R : Result → Shared → Prop} {s : Shared} {K : Frag} {mg mb : Str → Option Value} {x f : Str} {C fI : Addr} {Bi initId Bn newId : String}
theorem x_init (T : XTxt prog K mg x f C fI Bi initId Bn newId) (XI : XIni Bi initId) (XF : XName f) {y t0 : Addr} {v : Value} (X : K.In s.heap) (hlim : s.heap.NoLimit) (hy : s.heap.get? y = some (excO C t0)) (hny : K.lookup y = none) (hg : s.heap.Ns mainGlobals mg) (hb : s.heap.Ns builtinsNs mb)
    (hmb : mb "super" = some (.type "super")) (hroom : A.depth < recursionLimit) (hq : ∀ h' tk dx, XEnd s.heap h' y C dx f v → R (.ok (.ret .none)) { s with heap := h', toks := tk }) :
    codeAny (model prog w) A (.call (.ref fI) ⟨[.ref y, v], []⟩) R s := by
  obtain ⟨oc, od, doc, pm, an, cda, ct, osl, cc, qual, msg, p1, p2, q1, q2, q3, q4, q5, q6, q7, q8, q9, q10, ho, hcd, hln, ⟨ccl, cdd, vs, ccs, file, tf, hcode, hvs, hfile⟩, cl, cld, csl, hcell⟩ := T.fn
  obtain ⟨nm, q, N, bs, bm, sn, sub, ab, col, dd, k0, k1, k2, k3, k5, hC, XT, hal⟩ := T.cls
  have hcl : clsIn K C = some { name := nm, bases := bs, mro := .ref C :: bm, ns := N, qualname := q, hasDict := true, slotNames := sn, subclasses := sub, abstract := ab, collection := col, hasDel := false } := by unfold clsIn; rw [hC] <;> rfl
  have hyC : y ≠ C := fun z => by
    have e := X _ _ hC
    rw [← z, hy] at e
    cases e
  refine ks_codeAny_call_defAt (fd := ksFn "__init__" qual (xA f p1 p2) (xB f msg q1 q2 q3 q4 q5 q6 q7 q8 q9 q10) (xS f) .none .none doc pm an (.ref cda) ct cc) (body := xB f msg q1 q2 q3 q4 q5 q6 q7 q8 q9 q10) (binds := [(PySem.Str.ofString "self", .ref y), (f, v)])
    hroom (X _ _ ho) rfl hlim (codeRec_of X hcd) rfl (BindsTo.of_eq (XF.bind ..)) ?_ ?_ (fun h1 hns hk1 => ?_) rfl rfl rfl
  · intro z hz
    show z.2 ≠ .cell
    have hz' : z ∈ [(PySem.Str.ofString "self", NameKind.local), (f, NameKind.local), (PySem.Str.ofString "__class__", NameKind.free), (PySem.Str.ofString "super", NameKind.globalImplicit)] := hz
    simp only [List.mem_cons, List.not_mem_nil, or_false] at hz'
    rcases hz' with rfl | rfl | rfl | rfl <;> (intro q; cases q)
  · intro z hz
    show (xS f).names.lookup z.1 = some .local
    simp only [List.mem_cons, List.not_mem_nil, or_false] at hz
    rcases hz with rfl | rfl
    · rfl
    · exact XF.loc
  · have X1 : K.In h1 := X.keeps hk1
    have hn1 : ∀ z, List.lookup z [(PySem.Str.ofString "self", Value.ref y), (f, v)].reverse = if z = f then some v else if z = PySem.Str.ofString "self" then some (.ref y) else none := fun z => by
      show List.lookup z [(f, v), (PySem.Str.ofString "self", Value.ref y)] = _
      by_cases e1 : z = f
      · subst e1
        simp [List.lookup]
      · have e1' : (z == f) = false := by simpa using e1
        rw [if_neg e1]
        by_cases e2 : z = PySem.Str.ofString "self"
        · subst e2
          simp [List.lookup, e1']
        · have e2' : (z == PySem.Str.ofString "self") = false := by simpa using e2
          rw [if_neg e2]
          simp [List.lookup, e1', e2']
    have hself : List.lookup (PySem.Str.ofString "self") [(PySem.Str.ofString "self", Value.ref y), (f, v)].reverse = some (.ref y) := by
      rw [hn1, if_neg (Ne.symm XF.ns), if_pos rfl]
    have hval : List.lookup f [(PySem.Str.ofString "self", Value.ref y), (f, v)].reverse = some v := by
      rw [hn1, if_pos rfl]
    have hy1 := hk1 _ _ hy
    have hC1 : h1.get? C = some (excClassObj nm q C N bs bm true sn sub ab col dd k0 k1 k2 k3 k5 newId) := X1 _ _ hC
    have hyL : y ≠ s.heap.objs.size := Nat.ne_of_lt (Heap.lt_size hy)
    obtain ⟨hp, g, dr, tk, os⟩ := s
    generalize hen : callEnv (ksFn "__init__" qual (xA f p1 p2) (xB f msg q1 q2 q3 q4 q5 q6 q7 q8 q9 q10) (xS f) .none .none doc pm an (.ref cda) ct cc) (Shared.mk hp g dr tk os).heap.objs.size fI = env
    have eS : env.scope = xS f := by rw [← hen]; rfl
    have eL : env.locals = hp.objs.size := by rw [← hen]; rfl
    have eG : env.globals = mainGlobals := by rw [← hen]; rfl
    have eB : env.builtins = builtinsNs := by rw [← hen]; rfl
    have eF : env.func = some fI := by rw [← hen]; rfl
    have eC : env.code = .ref cda := by rw [← hen]; rfl
    have eK : env.cells = [(PySem.Str.ofString "__class__", cc)] := by rw [← hen]; rfl
    have kS : ∀ z, env.kindOf z = (xS f).names.lookup z := fun z => by
      show env.scope.names.lookup z = _
      rw [eS]
    have hkf : env.scope.kind = .function := by rw [eS]; rfl
    have hks : env.kindOf (PySem.Str.ofString "super") = some .globalImplicit := (kS _).trans XF.su
    have hkc : env.kindOf (PySem.Str.ofString "__class__") = some .free := (kS _).trans XF.fr
    have hkl : env.kindOf (PySem.Str.ofString "self") = some .local := (kS _).trans rfl
    have hkv : env.kindOf f = some .local := (kS _).trans XF.loc
    have hns' : h1.Ns env.locals fun x => List.lookup x [(PySem.Str.ofString "self", Value.ref y), (f, v)].reverse := by rw [eL]; exact hns
    have hmc : eval (.Call (.Attribute (.Call (.Name "super" q1) [] [] q2) "__init__" q3) [.Constant (.str msg) 0 q4] [] q5) env = (do
        let ov ← attributeBase (.Call (.Name "super" q1) [] [] q2) "__init__" env (eval (.Call (.Name "super" q1) [] [] q2) env)
        standAt q3.atName
        let (f, first) ← holding [ov] (getMethod ov "__init__" (do return (← importBound (.Call (.Name "super" q1) [] [] q2) env).getD true))
        callWith q5 f first (backTo q5 (starEach [.Constant (.str msg) 0 q4] env)) []) := by
      show (do
        let ov ← attributeBase (.Call (.Name "super" q1) [] [] q2) "__init__" env (eval (.Call (.Name "super" q1) [] [] q2) env)
        standAt q3.atName
        let (f, first) ← holding [ov] (getMethod ov "__init__" (do return (← importBound (.Call (.Name "super" q1) [] [] q2) env).getD true))
        let callPos ← (if (!true || q3.endLine == q5.line) = true then pure q5 else _)
        callWith callPos f first (backTo q5 (starEach [.Constant (.str msg) 0 q4] env)) []) = _
      rw [hln]
      rfl
    refine ks_wpAt_execs_cons (ks_wpAt_Expr_any (ks_wpAt_MethodCall (ks_wpAt_super_base (ar := ⟨"self", none, p1⟩) (of := ⟨oc, od, .func (ksFn "__init__" qual (xA f p1 p2) (xB f msg q1 q2 q3 q4 q5 q6 q7 q8 q9 q10) (xS f) .none .none doc pm an (.ref cda) ct cc), osl⟩)
      (oc := ⟨ccl, cdd, .fields vs, ccs⟩) hks hkc (by decide +kernel) eF (X1 _ _ ho) rfl rfl eC (X1 _ _ hcode) rfl hvs hfile T.top ?_) hmc) (by rw [← hen]; rfl) (by rw [← hen]; rfl))
    refine ks_loadName_global hkf hks (loadGlobal_builtin (by rw [eG]; exact hg.keeps hk1) T.nsup (by rw [eB]; exact hb.keeps hk1) hmb ⟨rfl, ?_⟩)
    refine wpAny_loadName_free hkf hkc (by rw [eK]; rfl) ⟨_, X1 _ _ hcell, rfl⟩ ?_
    refine wpAny_loadName_local hkf hkl hns' hself ?_
    refine ks_wpAny_isType_cls hC1 rfl ⟨rfl, ?_⟩
    refine ks_wpAny_call_super hC1 rfl hy1 rfl (fun c e => by cases e) (looks_mroIn X1 T.me) (fun h2 e2 k2 => ?_)
    have X2 : K.In h2 := X1.keeps k2
    have hy2 := k2 _ _ hy1
    have I2 : InstAt h2 y (excO C t0) C none := ⟨hy2, rfl, rfl, trivial⟩
    have hIs : Looks (model prog w) h2 (isInstance (.ref y) (.type Bi)) true := I2.type.andThen (looks_subIn X2 T.sB)
    refine kxs_getMethod XI.kx e2 (looks_opaque X2 T.op) (l₀ := .ref C :: bm) (fun A Q E s k q => wpAny_bind ((looks_clsIn X2 hcl) A _ E s k (wpAny_pure q))) (ESX.drop_own C bm) X2 hal hIs hyC (by decide +kernel) ?_
    -- the wrapper is called with the text
    refine kxs_callWith (i := initId) (x := y) rfl ?_
    refine evalArgs_plain ?_
    refine spliced_cons (wpAny_Constant_str (k := 0) (pos := q4) (spliced_nil ⟨Heap.get?_push_size _ rfl, ?_⟩))
    have k3 : ∀ b o, h2.get? b = some o → (h2.push (kxs_mw initId y)).get? b = some o := fun b o e => Heap.get?_push_of_some _ e
    refine xbound_call XI (k3 _ _ (k2 _ _ hC1)) (k3 _ _ hy2) (Heap.get?_push_size _ rfl) (by show 1 ≤ sizeLine; rw [sizeLine_eq]; decide) (fun h4 t4 k4 e4 => ?_)
    have K4 : ∀ b o, b ≠ y → h1.get? b = some o → h4.get? b = some o := fun b o hb e => k4 b o hb (k3 b o (k2 b o e))
    have X4 : K.In h4 := fun b o e => K4 b o (fun z => by rw [z, hny] at e; cases e) (X1 _ _ e)
    have hns4 : h4.Ns env.locals fun x => List.lookup x [(PySem.Str.ofString "self", Value.ref y), (f, v)].reverse := by
      obtain ⟨o, es, ep, e, r⟩ := hns'
      exact ⟨o, es, ep, K4 _ _ (by rw [eL]; exact Ne.symm hyL) e, r⟩
    -- self.f = f
    refine ks_wpAt_execs_cons (PySem.wpAt_of_wpAny (plainObj_wpAny_Assign_Attribute (wpAny_Name (wpAny_loadName_local hkf hkv hns4 hval (wpAny_Name (wpAny_loadName_local hkf hkl hns4 hself ?_) (by decide))) XF.nd)))
    refine set_plain X4 (ox := excO C t4) (od := none) ⟨e4, rfl, rfl, trivial⟩ T.sa ?_
    refine xosa X4 e4 hcl rfl XT rfl T.noN (fun h5 tk5 dx k5' dn dne hx5 hn5 => ?_)
    show PySem.wpAt _ _ _ (execs [] env) _ _ _
    refine PySem.wpAt_of_wpAny (wpAny_execs_nil (hq h5 tk5 dx ⟨fun b o hb e => k5' b o hb (K4 b o hb (hk1 b o e)), ⟨t4, hx5⟩, ?_, dne, hn5⟩))
    refine Nat.le_trans ?_ dn
    obtain ⟨o, es, ep, e, r⟩ := hns4
    have q := Heap.lt_size e
    rw [eL] at q
    exact Nat.le_of_lt q
/-- a made error -/
structure XMade (h h' : Heap) (e C d : Addr) (f : Str) (v : Value) : Prop where
  keep : ∀ b o, h.get? b = some o → h'.get? b = some o
  new : h.objs.size ≤ e
  obj : ∃ oe vs, h'.get? e = some oe ∧ oe.cls = .ref C ∧ oe.dict = some d ∧ oe.data = .fields vs ∧ vs[1]? = some .none
  dbig : h.objs.size ≤ d
  dne : d ≠ e
  ns : h'.Ns1 d (fun y => if y = f then some v else none)
theorem x_made {initN : String} {bmB : List Value} (F : ExcBaseFacts Bn newId initN bmB) (T : XTxt prog K mg x f C fI Bi initId Bn newId) (XI : XIni Bi initId) (XF : XName f) {v : Value} (X : K.In s.heap) (hlim : s.heap.NoLimit) (hg : s.heap.Ns mainGlobals mg) (hb : s.heap.Ns builtinsNs mb)
    (hmb : mb "super" = some (.type "super")) (hroom : A.depth + 1 < recursionLimit)
    (hq : ∀ h' tk e d, XMade s.heap h' e C d f v → R (.ok (.ret (.ref e))) { s with heap := h', toks := tk }) : codeAny (model prog w) A (.call (.ref C) ⟨[v], []⟩) R s := by
  obtain ⟨nm, q, N, bs, bm, sn, sub, ab, col, dd, k0, k1, k2, k3, k5, hC, XT, hal⟩ := T.cls
  obtain ⟨hp, g, dr, tk, os⟩ := s
  have k : ∀ b o, hp.get? b = some o → ((hp.push (kdv_tup [v])).push (excO C hp.objs.size)).get? b = some o := fun b o e => Heap.get?_push_of_some _ (Heap.get?_push_of_some _ e)
  have hget : ((hp.push (kdv_tup [v])).push (excO C hp.objs.size)).get? (hp.objs.size + 1) = some (excO C hp.objs.size) := by heap_get
  have hnx : K.lookup (hp.objs.size + 1) = none := by
    cases e : K.lookup (hp.objs.size + 1) with
    | none => rfl
    | some o =>
      have z : hp.get? (hp.objs.size + 1) = some o := X _ _ e
      exact absurd (Nat.lt_of_succ_lt (Heap.lt_size z)) (Nat.lt_irrefl _)
  refine xcall_own F XT (X _ _ hC) (looks_findIn X T.iC) (fun self => bind_fn X self T.tC) (by show 1 ≤ sizeLine; rw [sizeLine_eq]; decide) ?_
  refine x_init (s := ⟨(hp.push (kdv_tup [v])).push (excO C hp.objs.size), g, dr, tk, os⟩) T XI XF (X.keeps k) (hlim.keeps k) hget hnx (hg.keeps k) (hb.keeps k) hmb ?_ fun h' tk' dx Z => ?_
  · show A.depth + 1 < recursionLimit
    exact hroom
  · have old : ∀ b o, hp.get? b = some o → h'.get? b = some o := fun b o e => Z.keep b o (Nat.ne_of_lt (Nat.lt_succ_of_lt (Heap.lt_size e))) (k b o e)
    have z : hp.objs.size + 1 + 1 ≤ dx := by
      have q := Z.dbig
      rw [Heap.size_push, Heap.size_push] at q
      exact q
    obtain ⟨t1, hx⟩ := Z.obj
    exact ⟨rfl, hq h' tk' (hp.objs.size + 1) dx ⟨old, Nat.le_succ _, ⟨_, _, hx, rfl, rfl, rfl, rfl⟩, Nat.le_trans (Nat.le_trans (Nat.le_succ _) (Nat.le_succ _)) z, Z.dne, Z.ns⟩⟩
end
end K7
namespace K7
open PySem PySem.Spec PyProof.Rows L2
theorem relO_one {v : V} {v' : Value} (r : RelV v v') (f z : Str) : RelO (List.lookup z [(f, v)]) (if z = f then some v' else none) := by
  by_cases hw : z = f
  · subst hw
    rw [if_pos rfl]
    have q : List.lookup z [(z, v)] = some v := by simp [List.lookup]
    rw [q]
    exact r
  · rw [if_neg hw]
    have qw : (z == f) = false := by simpa using hw
    have q2 : List.lookup z [(f, v)] = none := by simp [List.lookup, qw]
    rw [q2]
    trivial
section
variable {X : Cx} {x f : Str} {C fI : Addr} {Bi initId Bn newId initN : String} {bmB : List Value}
/-- C(e): the error's own dict d, new, holds the one field -/
def tMkX (C : Addr) (f : Str) (ta : TA) : St → Hp → XK → Prop := fun σ H Q => ta σ H fun vs H1 => ∃ v, vs = [v] ∧ ∀ d, H1 d = none → Q (.ref C) (some d) (upd H1 d (.xd [(f, v)]))
theorem pmk_x {a : Expr} {ta : TA} {p pos : Pos} {k : Nat} (F : ExcBaseFacts Bn newId initN bmB) (T : XTxt X.prog X.K X.mg x f C fI Bi initId Bn newId) (XI : XIni Bi initId) (XF : XName f) (hr : Room k X.A) (ha : PA X [a] ta) (hg : Gl X x := by rfl) (hdb : (x == ("__debug__" : Str)) = false := by decide)
    (he : starEach (a :: []) X.env = (false, eval a X.env) :: starEach [] X.env := by rfl) (hpl : (backTo pos (starEach [] X.env)).any (·.1) = false := by rfl) :
    PMk X (.Call (.Name x p) [a] [] pos) (tMkX C f ta) := by
  intro pins s σ H Q I h
  refine wpAny_Call_Name_kw (ld_glob I hg T.gC ?_ hdb)
  refine PySem.W.callWith_K (h₀ := X.base) I.ok.mod.kin T.kC (thn (ha.run pos pins s σ H _ I h) fun us s1 hh => ?_) he hpl
  obtain ⟨vs, H1, I1, r1, v, ev, q1⟩ := hh
  subst ev
  refine ⟨I1.kIn, ?_⟩
  cases r1 with
  | cons rv rn =>
    rename_i v' us'
    cases rn
    show wpAny _ _ (call (.ref C) [v']) _ _ _
    obtain ⟨mb, hmb, hbt⟩ := I1.ok.mod.blt
    have hlim := I1.nolimit
    have hk := I1.bk
    obtain ⟨hp, g, dr, tk, os⟩ := s1
    refine wpAny_call (x_made F T XI XF I1.kIn hlim (I1.ok.mod.glob.keeps hk) (hmb.keeps hk) ((hbt _ (by decide +kernel)).trans (by decide +kernel)) (by have := hr.dp; omega) fun h' tk' e d M => ?_)
    show MkP X pins σ Q (.ref e) ⟨h', g, dr, tk', os⟩
    obtain ⟨oe, fv, hoe, hc, hd, hdat, h1⟩ := M.obj
    have hns := M.ns
    obtain ⟨G', g1, g2⟩ := restrict h' fun b => decide (b ≠ e)
    have gk : ∀ b, b ≠ e → G'.get? b = h'.get? b := fun b hb => g1 b (decide_eq_true hb)
    have ge : G'.get? e = none := g2 e (by simp)
    have old : ∀ b o, hp.get? b = some o → G'.get? b = some o := fun b o q => (gk b (Nat.ne_of_lt (Nat.lt_of_lt_of_le (Heap.lt_size q) M.new))).trans (M.keep b o q)
    have ob : ObjOk X.prog X.w (upd H1 d (.xd [(f, v)])) G' d (.xd [(f, v)]) := ⟨_, hns.at (fun o q => (gk d M.dne).trans q), fun z => relO_one rv f z⟩
    have J : Inv X pins σ (upd H1 d (.xd [(f, v)])) ⟨G', g, dr, tk', os⟩ := I1.laid (t' := tk') old M.dbig ob
    refine ⟨e, oe, fv, ⟨G', g, dr, tk', os⟩, _, .ref C, some d, rfl, J, fun b o q => ?_, ge, hoe, ⟨hc, hd⟩, hdat, h1, ?_, rfl, I1.bare, raises_own T.exC T.tyC, q1 d (I1.hok.fresh M.dbig)⟩
    · by_cases hb : b = e
      · have q' : G'.get? b = some o := q
        rw [hb, ge] at q'; cases q'
      · exact (gk b hb).symm.trans q
    · rw [upd_ne (Ne.symm M.dne)]
      exact I1.hok.fresh M.new
/-- raise C(e) -/
def tRaiseX (C : Addr) (f : Str) (W : WX) (ta : TA) : TS := fun _ σ H => tMkX C f ta σ H fun cls d H' => W cls d σ H'
theorem ps_raiseX {a : Expr} {ta : TA} {W : WX} {p pos pos2 : Pos} {k : Nat} (hc : X.calm = true) (F : ExcBaseFacts Bn newId initN bmB) (T : XTxt X.prog X.K X.mg x f C fI Bi initId Bn newId) (XI : XIni Bi initId) (XF : XName f) (hr : Room k X.A) (tk : Takes X W) (ha : PA X [a] ta)
    (hg : Gl X x := by rfl) (hdb : (x == ("__debug__" : Str)) = false := by decide) (he : starEach (a :: []) X.env = (false, eval a X.env) :: starEach [] X.env := by rfl) (hpl : (backTo pos (starEach [] X.env)).any (·.1) = false := by rfl) :
    PS X (.Raise (some (.Call (.Name x p) [a] [] pos)) none pos2) (tRaiseX C f W ta) := ps_raise hc tk (pmk_x F T XI XF hr ha hg hdb he hpl)
end
/-! ### the bases -/
theorem xi_ValueError : XIni "ValueError" "ValueError.__init__" := ⟨PySem.W.kxs_ValueError, by kernel_rfl, by kernel_rfl, F.excBase_ValueError.init.plain, F.excBase_ValueError.initEntry, F.excBase_ValueError.noStar⟩
theorem xi_OverflowError : XIni "OverflowError" "OverflowError.__init__" := ⟨PySem.W.kxs_OverflowError, by kernel_rfl, by kernel_rfl, F.excBase_OverflowError.init.plain, F.excBase_OverflowError.initEntry, F.excBase_OverflowError.noStar⟩
theorem kxs_KeyError : PySem.W.KxsFacts "KeyError" "KeyError.__init__" := ⟨by show builtinType _ = _; rw [builtinType_eq_fast]; kernel_rfl, by first | kernel_rfl | rfl⟩
theorem xi_KeyError : XIni "KeyError" "KeyError.__init__" := ⟨kxs_KeyError, excClass_KeyError.initKind, excClass_KeyError.initSig, excClass_KeyError.init.plain, excClass_KeyError.initEntry, excClass_KeyError.notStar⟩
theorem xn_value : XName "value" := ⟨rfl, fun _ _ _ _ _ _ _ _ _ _ _ _ _ _ _ _ _ _ _ _ _ _ => rfl, rfl, rfl, by decide +kernel, by decide +kernel⟩
theorem xn_name : XName "name" := ⟨rfl, fun _ _ _ _ _ _ _ _ _ _ _ _ _ _ _ _ _ _ _ _ _ _ => rfl, rfl, rfl, by decide +kernel, by decide +kernel⟩
theorem xn_count : XName "count" := ⟨rfl, fun _ _ _ _ _ _ _ _ _ _ _ _ _ _ _ _ _ _ _ _ _ _ => rfl, rfl, rfl, by decide +kernel, by decide +kernel⟩
end K7

set_option Elab.async false
set_option linter.all false
set_option maxRecDepth 100000
set_option maxHeartbeats 2000000
/-! Heaps, data, callables. -/
namespace K7
open PySem PySem.Spec PyProof.Rows L2
/-! ### heaps -/
/-- all but what stands at d is as it was -/
def But (d : Addr) (H H' : Hp) : Prop := ∀ b o, b ≠ d → H b = some o → H' b = some o
theorem But.refl (d : Addr) (H : Hp) : But d H H := fun _ _ _ h => h
theorem But.trans {d : Addr} {H H1 H2 : Hp} (a : But d H H1) (b : But d H1 H2) : But d H H2 := fun c o n h => b c o n (a c o n h)
theorem but_of {d : Addr} {H H' : Hp} (a : Same H H') : But d H H' := fun c o _ h => a c o h
theorem But.put {d : Addr} {H H' : Hp} (a : But d H H') (o : HO) : But d H (upd H' d o) := fun c u n h => by rw [upd_ne n]; exact a c u n h
theorem But.new {d p : Addr} {H H' : Hp} (a : But d H H') (h : H' p = none) (o : HO) : But d H (upd H' p o) := fun c u n e => by
  have q := a c u n e
  rw [upd_ne (ne_of_none q h)]
  exact q
theorem But.same {d : Addr} {H H' : Hp} (a : But d H H') (n : H d = none) : Same H H' := fun c o h => a c o (ne_of_none h n) h
theorem But.free {d p : Addr} {H H' : Hp} (a : But d H H') (n : p ≠ d) (h : H' p = none) : H p = none := by
  cases q : H p with
  | none => rfl
  | some o => rw [a p o n q] at h; cases h
theorem same_new {p : Addr} {H H' : Hp} (a : Same H H') (h : H' p = none) (o : HO) : Same H (upd H' p o) := fun c u e => by
  have q := a c u e
  rw [upd_ne (ne_of_none q h)]
  exact q
theorem same1 {p : Addr} {H : Hp} (h : H p = none) (o : HO) : Same H (upd H p o) := same_new (Same.refl H) h o
/-- what is new in H, put back later -/
theorem Same.back {p : Addr} {H H' : Hp} (a : But p H H') (n : H p = none) (o : HO) : Same H (upd H' p o) := (a.put o).same n
/-- a lock and its end -/
theorem Same.unlock {d : Addr} {u : HO} {H H' : Hp} (e : H d = some u) (a : But d H H') : Same H (upd H' d u) := fun c o h => by
  by_cases n : c = d
  · subst n; rw [e] at h; cases h; exact upd_same
  · rw [upd_ne n]; exact a c o n h
/-- all objects of a kind stand -/
def Kd (k : HO → Bool) (H H' : Hp) : Prop := ∀ b o, H b = some o → k o = true → H' b = some o
/-- tuples, and lists but those of two ints -/
def flatO : HO → Bool
  | .tup _ => true
  | .lst [.int _, .int _] => false
  | .lst _ => true
  | _ => false
/-- .. and dicts -/
def midO : HO → Bool
  | .dK _ => true
  | o => flatO o
/-- .. and instances without entries -/
def fullO : HO → Bool
  | .ins _ _ fs => (fs.lookup ("own_entries" : Str)).isNone
  | o => midO o
section
variable {k : HO → Bool} {H H1 H2 : Hp} {d p : Addr} {o u : HO}
theorem Kd.refl (H : Hp) : Kd k H H := fun _ _ h _ => h
theorem Kd.trans (a : Kd k H H1) (b : Kd k H1 H2) : Kd k H H2 := fun c o h e => b c o (a c o h e) e
theorem kd_of (a : Same H H1) : Kd k H H1 := fun c o h _ => a c o h
theorem kd_but (a : But d H H1) (h : ∀ o, H d = some o → k o = false) : Kd k H H1 := fun c o e q => by
  by_cases n : c = d
  · subst n; rw [h o e] at q; cases q
  · exact a c o n e
theorem kd_but1 (a : But d H H1) (e : H d = some u) (h : k u = false) : Kd k H H1 := kd_but a fun o q => by rw [e] at q; cases q; exact h
theorem kd_upd (e : H d = some u) (h : k u = false) (o : HO) : Kd k H (upd H d o) := kd_but1 ((But.refl d H).put o) e h
theorem kd_new (e : H d = none) (o : HO) : Kd k H (upd H d o) := kd_of (same1 e o)
theorem Kd.flat (a : Kd midO H H1) : Kd flatO H H1 := fun c o e q => a c o e (by cases o <;> first | exact q | rfl)
theorem Kd.mid (a : Kd fullO H H1) : Kd midO H H1 := fun c o e q => a c o e (by
  cases o with
  | ins _ _ _ => cases q
  | _ => exact q)
end
/-! ### data -/
mutual
inductive Dt (H : Hp) : V → PyData → Prop
  | non : Dt H .non .none
  | int (i : Int) : Dt H (.int i) (.int i)
  | str (x : Str) : Dt H (.str x) (.str x)
  | lst {a : Addr} {xs : List V} {ds : List PyData} : H a = some (.lst xs) → flatO (.lst xs) = true → DtL H xs ds → Dt H (.ref a) (.list ds)
  | tup {a : Addr} {xs : List V} {ds : List PyData} : H a = some (.tup xs) → DtL H xs ds → Dt H (.ref a) (.tuple ds)
inductive DtL (H : Hp) : List V → List PyData → Prop
  | nil : DtL H [] []
  | cons {v : V} {vs : List V} {d : PyData} {ds : List PyData} : Dt H v d → DtL H vs ds → DtL H (v :: vs) (d :: ds)
end
mutual
theorem Dt.mono {H H' : Hp} (a : Kd flatO H H') : ∀ (d : PyData) (v : V), Dt H v d → Dt H' v d
  | .none, _, h => by cases h; exact .non
  | .bool _, _, h => by cases h
  | .int i, _, h => by cases h; exact .int i
  | .str x, _, h => by cases h; exact .str x
  | .list ds, _, h => by
    cases h with
    | lst e f q => exact .lst (a _ _ e f) f (DtL.mono a ds _ q)
  | .tuple ds, _, h => by
    cases h with
    | tup e q => exact .tup (a _ _ e rfl) (DtL.mono a ds _ q)
  | .dict _, _, h => by cases h
theorem DtL.mono {H H' : Hp} (a : Kd flatO H H') : ∀ (ds : List PyData) (vs : List V), DtL H vs ds → DtL H' vs ds
  | [], _, h => by cases h; exact .nil
  | d :: ds, _, h => by
    cases h with
    | cons h1 h2 => exact .cons (Dt.mono a d _ h1) (DtL.mono a ds _ h2)
end
mutual
theorem Dt.dp {K : PySem.W.Frag} {H : Hp} : ∀ (d : PyData) (v : V), Dt H v d → Dp K H v d
  | .none, _, h => by cases h; exact .non
  | .bool _, _, h => by cases h
  | .int i, _, h => by cases h; exact .int i
  | .str x, _, h => by cases h; exact .str x
  | .list ds, _, h => by
    cases h with
    | lst e f q => exact .lst (.inl (.inl e)) (DtL.dp ds _ q)
  | .tuple ds, _, h => by
    cases h with
    | tup e q => exact .tup (.inl (.inl e)) (DtL.dp ds _ q)
  | .dict _, _, h => by cases h
theorem DtL.dp {K : PySem.W.Frag} {H : Hp} : ∀ (ds : List PyData) (vs : List V), DtL H vs ds → DpAll K H vs ds
  | [], _, h => by cases h; exact .nil
  | d :: ds, _, h => by
    cases h with
    | cons h1 h2 => exact .cons (Dt.dp d _ h1) (DtL.dp ds _ h2)
end
theorem Dt.mv {H H' : Hp} {d : PyData} {v : V} (h : Dt H v d) (a : Kd flatO H H') : Dt H' v d := Dt.mono a d v h
theorem DtL.mv {H H' : Hp} {d : List PyData} {v : List V} (h : DtL H v d) (a : Kd flatO H H') : DtL H' v d := DtL.mono a d v h
theorem Dt.up {H H' : Hp} {d : PyData} {v : V} (h : Dt H v d) (a : Same H H') : Dt H' v d := Dt.mono (kd_of a) d v h
theorem DtL.up {H H' : Hp} {d : List PyData} {v : List V} (h : DtL H v d) (a : Same H H') : DtL H' v d := DtL.mono (kd_of a) d v h
theorem DtL.length {H : Hp} : ∀ {ds : List PyData} {vs : List V}, DtL H vs ds → vs.length = ds.length
  | [], _, h => by cases h; rfl
  | d :: ds, _, h => by
    cases h with
    | cons h1 h2 => exact congrArg Nat.succ h2.length
theorem DtL.get {H : Hp} : ∀ {ds : List PyData} {vs : List V} {i : Nat} {d : PyData}, DtL H vs ds → ds[i]? = some d → ∃ v, vs[i]? = some v ∧ Dt H v d
  | [], _, _, _, _, e => by cases e
  | d :: ds, _, i, _, h, e => by
    cases h with
    | cons h1 h2 =>
      cases i with
      | zero => cases e; exact ⟨_, rfl, h1⟩
      | succ i => exact DtL.get (i := i) h2 e
theorem DtL.getV {H : Hp} : ∀ {ds : List PyData} {vs : List V} {i : Nat} {v : V}, DtL H vs ds → vs[i]? = some v → ∃ d, ds[i]? = some d ∧ Dt H v d
  | [], _, _, _, h, e => by cases h; cases e
  | d :: ds, _, i, _, h, e => by
    cases h with
    | cons h1 h2 =>
      cases i with
      | zero => cases e; exact ⟨_, rfl, h1⟩
      | succ i => exact DtL.getV (i := i) h2 e
theorem DtL.app {H : Hp} : ∀ {ds es : List PyData} {vs ws : List V}, DtL H vs ds → DtL H ws es → DtL H (vs ++ ws) (ds ++ es)
  | [], _, _, _, h, g => by cases h; exact g
  | d :: ds, _, _, _, h, g => by
    cases h with
    | cons h1 h2 => exact .cons h1 (h2.app g)
theorem DtL.take {H : Hp} : ∀ {n : Nat} {ds : List PyData} {vs : List V}, DtL H vs ds → DtL H (vs.take n) (ds.take n)
  | 0, _, _, _ => .nil
  | n + 1, [], _, h => by cases h; exact .nil
  | n + 1, d :: ds, _, h => by
    cases h with
    | cons h1 h2 => exact .cons h1 (h2.take (n := n))
theorem DtL.drop {H : Hp} : ∀ {n : Nat} {ds : List PyData} {vs : List V}, DtL H vs ds → DtL H (vs.drop n) (ds.drop n)
  | 0, _, _, h => h
  | n + 1, [], _, h => by cases h; exact .nil
  | n + 1, d :: ds, _, h => by
    cases h with
    | cons h1 h2 => exact h2.drop (n := n)
/-- texts -/
theorem dtl_strs {H : Hp} : ∀ ns : List Str, DtL H (ns.map V.str) (ns.map PyData.str)
  | [] => .nil
  | n :: ns => .cons (.str n) (dtl_strs ns)
theorem dtl_strs_eq {H : Hp} : ∀ {ns : List Str} {vs : List V}, DtL H vs (ns.map PyData.str) → vs = ns.map V.str
  | [], _, h => by cases h; rfl
  | n :: ns, _, h => by
    cases h with
    | cons h1 h2 => cases h1; rw [dtl_strs_eq h2]; rfl
theorem strs_flat (ns : List Str) : flatO (.lst (ns.map V.str)) = true := by
  match ns with
  | [] => rfl
  | [_] => rfl
  | [_, _] => rfl
  | _ :: _ :: _ :: _ => rfl
/-! ### dicts by names -/
inductive Al {α β : Type} (R : α → β → Prop) : List α → List β → Prop
  | nil : Al R [] []
  | cons {a : α} {b : β} {as : List α} {bs : List β} : R a b → Al R as bs → Al R (a :: as) (b :: bs)
section
variable {α β : Type} {R S : α → β → Prop}
theorem Al.mono (f : ∀ a b, R a b → S a b) : ∀ {as : List α} {bs : List β}, Al R as bs → Al S as bs
  | _, _, .nil => .nil
  | _, _, .cons h t => .cons (f _ _ h) (t.mono f)
theorem Al.length : ∀ {as : List α} {bs : List β}, Al R as bs → as.length = bs.length
  | _, _, .nil => rfl
  | _, _, .cons h t => congrArg Nat.succ t.length
theorem Al.get : ∀ {as : List α} {bs : List β} {i : Nat} {a : α}, Al R as bs → as[i]? = some a → ∃ b, bs[i]? = some b ∧ R a b
  | _, _, _, _, .nil, e => by cases e
  | _, _, 0, _, .cons h t, e => by cases e; exact ⟨_, rfl, h⟩
  | _, _, i + 1, _, .cons h t, e => t.get (i := i) e
theorem Al.getR : ∀ {as : List α} {bs : List β} {i : Nat} {b : β}, Al R as bs → bs[i]? = some b → ∃ a, as[i]? = some a ∧ R a b
  | _, _, _, _, .nil, e => by cases e
  | _, _, 0, _, .cons h t, e => by cases e; exact ⟨_, rfl, h⟩
  | _, _, i + 1, _, .cons h t, e => t.getR (i := i) e
theorem Al.app : ∀ {as as' : List α} {bs bs' : List β}, Al R as bs → Al R as' bs' → Al R (as ++ as') (bs ++ bs')
  | _, _, _, _, .nil, g => g
  | _, _, _, _, .cons h t, g => .cons h (t.app g)
end
/-- one entry -/
def En1 {α : Type} (enc : α → PyData) (H : Hp) (p : Key × V) (q : Str × α) : Prop := p.1 = Sum.inr q.1 ∧ Dt H p.2 (enc q.2)
section
variable {α : Type} {enc : α → PyData} {H H' : Hp}
abbrev KvR (enc : α → PyData) (H : Hp) : List (Key × V) → List (Str × α) → Prop := Al (En1 enc H)
theorem KvR.mv {kvs : List (Key × V)} {m : List (Str × α)} (h : KvR enc H kvs m) (a : Kd flatO H H') : KvR enc H' kvs m := Al.mono (fun _ _ e => ⟨e.1, e.2.mv a⟩) h
theorem KvR.keys : ∀ {kvs : List (Key × V)} {m : List (Str × α)}, KvR enc H kvs m → kvs.map (·.1) = (m.map (·.1)).map Sum.inr
  | _, _, .nil => rfl
  | _, _, .cons h t => by rw [List.map_cons, List.map_cons, List.map_cons, KvR.keys t, h.1]
theorem KvR.kVs {kvs : List (Key × V)} {m : List (Str × α)} (h : KvR enc H kvs m) : kvs.map (fun p => kV p.1) = (m.map (·.1)).map V.str := by
  have e := h.keys
  have : kvs.map (fun p => kV p.1) = (kvs.map (·.1)).map kV := by rw [List.map_map]; rfl
  rw [this, e, List.map_map]
  rfl
theorem KvR.nd {kvs : List (Key × V)} {m : List (Str × α)} (h : KvR enc H kvs m) (n : (m.map (·.1)).Nodup) : (kvs.map (·.1)).Nodup := by
  rw [h.keys]
  exact List.Pairwise.map _ (fun _ _ (ne : _ ≠ _) e => ne (Sum.inr.inj e)) n
theorem KvR.val {n : Str} : ∀ {kvs : List (Key × V)} {m : List (Str × α)}, KvR enc H kvs m → ∀ {x : α}, m.lookup n = some x → ∃ v, valV kvs (Sum.inr n : Key) = some v ∧ Dt H v (enc x)
  | _, _, .nil, _, e => by cases e
  | (k, v) :: _, (s, y) :: _, .cons ⟨h1, h2⟩ t, x, e => by
    cases h1
    rw [List.lookup_cons] at e
    by_cases q : n = s
    · subst q
      rw [beq_self_eq_true] at e
      cases e
      exact ⟨v, valV_pos rfl, h2⟩
    · rw [(beq_eq_false_iff_ne).mpr q] at e
      obtain ⟨v', e', d⟩ := KvR.val t e
      exact ⟨v', by rw [valV_neg (fun z => q (Sum.inr.inj z).symm)]; exact e', d⟩
theorem KvR.valN {n : Str} : ∀ {kvs : List (Key × V)} {m : List (Str × α)}, KvR enc H kvs m → m.lookup n = none → valV kvs (Sum.inr n : Key) = none
  | _, _, .nil, _ => rfl
  | (k, v) :: _, (s, y) :: _, .cons ⟨h1, h2⟩ t, e => by
    cases h1
    rw [List.lookup_cons] at e
    by_cases q : n = s
    · subst q
      rw [beq_self_eq_true] at e
      cases e
    · rw [(beq_eq_false_iff_ne).mpr q] at e
      rw [valV_neg (fun z => q (Sum.inr.inj z).symm)]
      exact KvR.valN t e
/-- put by a name -/
def putN (m : List (Str × α)) (n : Str) (x : α) : List (Str × α) := if (m.lookup n).isSome then m.map (fun p => if p.1 = n then (p.1, x) else p) else m ++ [(n, x)]
theorem KvR.mapPut {n : Str} {v : V} {x : α} (d : Dt H v (enc x)) : ∀ {kvs : List (Key × V)} {m : List (Str × α)}, KvR enc H kvs m → KvR enc H (kvs.map fun kv => if kv.1 = (Sum.inr n : Key) then (kv.1, v) else kv) (m.map fun p => if p.1 = n then (p.1, x) else p)
  | _, _, .nil => .nil
  | (k, w) :: _, (s, y) :: _, .cons ⟨h1, h2⟩ t => by
    cases h1
    refine .cons ?_ (KvR.mapPut d t)
    by_cases q : s = n
    · subst q
      show En1 enc H (if (Sum.inr s : Key) = Sum.inr s then _ else _) (if s = s then _ else _)
      rw [if_pos rfl, if_pos rfl]
      exact ⟨rfl, d⟩
    · show En1 enc H (if (Sum.inr s : Key) = Sum.inr n then _ else _) (if s = n then _ else _)
      rw [if_neg (fun z => q (Sum.inr.inj z)), if_neg q]
      exact ⟨rfl, h2⟩
theorem KvR.put {n : Str} {v : V} {x : α} {kvs : List (Key × V)} {m : List (Str × α)} (h : KvR enc H kvs m) (d : Dt H v (enc x)) : KvR enc H (putK kvs (Sum.inr n : Key) v) (putN m n x) := by
  unfold putK putN
  rw [valV_any]
  cases e : m.lookup n with
  | none =>
    rw [h.valN e]
    exact Al.app h (.cons ⟨rfl, d⟩ .nil)
  | some y =>
    obtain ⟨w, ew, _⟩ := h.val e
    rw [ew]
    exact h.mapPut d
def dropN (m : List (Str × α)) (n : Str) : List (Str × α) := m.filter fun p => decide (p.1 ≠ n)
theorem KvR.drop {n : Str} : ∀ {kvs : List (Key × V)} {m : List (Str × α)}, KvR enc H kvs m → KvR enc H (dropK kvs (Sum.inr n : Key)) (dropN m n)
  | _, _, .nil => .nil
  | (k, w) :: _, (s, y) :: _, .cons ⟨h1, h2⟩ t => by
    cases h1
    unfold dropK dropN
    rw [List.filter_cons, List.filter_cons]
    by_cases q : s = n
    · subst q
      rw [if_neg (by simp), if_neg (by simp)]
      exact KvR.drop t
    · rw [if_pos (by simp [q]), if_pos (by simp [q])]
      exact .cons ⟨rfl, h2⟩ (KvR.drop t)
/-- a dict of m stands at a -/
def DA (enc : α → PyData) (H : Hp) (a : Addr) (m : List (Str × α)) : Prop := ∃ kvs, H a = some (.dK kvs) ∧ KvR enc H kvs m
theorem DA.mv {a : Addr} {m : List (Str × α)} (h : DA enc H a m) (k : Kd midO H H') : DA enc H' a m := by
  obtain ⟨kvs, e, r⟩ := h
  exact ⟨kvs, k _ _ e rfl, r.mv k.flat⟩
theorem DA.up {a : Addr} {m : List (Str × α)} (h : DA enc H a m) (k : Same H H') : DA enc H' a m := h.mv (kd_of k)
end
/-! ### what the top has left, by names -/
theorem FunD.toFun {K : PySem.W.Frag} {x qual : Str} {st : Stmt} {kws : List (Str × V)} {f : Addr} {fd : FuncData} (F : FunD K x qual (defArgs st) (defBody st) (defScope st) [] kws f fd) : Fun K x qual st f fd := by
  obtain ⟨oc, od, dV, kV, doc, pm, an, cdv, ct, osl, e, lk, hcd, hD, _⟩ := F.ex
  rcases hD with ⟨_, rfl⟩ | ⟨z, _⟩
  · exact ⟨⟨oc, od, kV, doc, pm, an, cdv, ct, osl, e, lk, hcd⟩, F.kp⟩
  · exact absurd rfl z
def GFun (K : PySem.W.Frag) (mg : Str → Option Value) (x : Str) (st : Stmt) : Prop := mg x = some (.ref (ga K x)) ∧ ∃ fd, Fun K x x st (ga K x) fd
def MFun (K : PySem.W.Frag) (c m q : Str) (st : Stmt) : Prop := Meth K (ga K c) m (ma K (ga K c) m) ∧ ∃ fd, Fun K m q st (ma K (ga K c) m) fd
/-- a def that can be called by its name -/
def Cal (P : Program) (w : World) (K : PySem.W.Frag) (mg : Str → Option Value) (base : Heap) (CX : CXT) (k : Nat) (x : Str) (sp : Sp) : Prop :=
  ∃ f fd ps, mg x = some (.ref f) ∧ PySem.W.keepIn K (.ref f) = true ∧ FnOk P w K mg base CX k f fd ps sp ∧ Binds K fd ps []
def CalM (P : Program) (w : World) (K : PySem.W.Frag) (mg : Str → Option Value) (base : Heap) (CX : CXT) (k : Nat) (C : Addr) (m : Str) (sp : Sp) : Prop :=
  ∃ f fd ps, Meth K C m f ∧ FnOk P w K mg base CX k f fd ps sp ∧ Binds K fd ps []
section
variable {P : Program} {w : World} {K : PySem.W.Frag} {mg : Str → Option Value} {base : Heap} {CX : CXT} {k : Nat} {x m q : Str} {st : Stmt} {ps : List Str} {sp : Sp} {c : Str}
theorem GFun.cal (g : GFun K mg x st) (h : ∀ f fd, Fun K x x st f fd → FnOk P w K mg base CX k f fd ps sp)
    (b : ∀ (kV doc pm : Value) (an : Option Addr) (cdv ct : Value) (us : List Value), us.length = ps.length → bindArgs (PySem.W.fnOf x x (defArgs st) (defBody st) (defScope st) .none kV doc pm an cdv ct) ⟨us, []⟩ = pure (ps.zip us)) : Cal P w K mg base CX k x sp := by
  obtain ⟨e, fd, F⟩ := g
  exact ⟨_, fd, ps, e, F.kp, h _ _ F, F.binds b⟩
theorem MFun.cal (g : MFun K c m q st) (h : ∀ f fd, Fun K m q st f fd → FnOk P w K mg base CX k f fd ps sp)
    (b : ∀ (kV doc pm : Value) (an : Option Addr) (cdv ct : Value) (us : List Value), us.length = ps.length → bindArgs (PySem.W.fnOf m q (defArgs st) (defBody st) (defScope st) .none kV doc pm an cdv ct) ⟨us, []⟩ = pure (ps.zip us)) : CalM P w K mg base CX k (ga K c) m sp := by
  obtain ⟨e, fd, F⟩ := g
  exact ⟨_, fd, ps, e, h _ _ F, F.binds b⟩
end
section
variable {X : Cx} {CX : CXT} {k : Nat} {x m : Str} {sp : Sp} {E : XK} {e o : Expr} {es : List Expr} {t : TA} {ta : TE} {p pos apos : Pos} {C : Addr}
theorem tCall_nil {E : XK} {t : TA} {σ : St} {H : Hp} {Q : VK} (h : t σ H fun vs H1 => sp vs H1 Q E) (mono : ∀ (R S : List V → Hp → Prop), (∀ vs H, R vs H → S vs H) → t σ H R → t σ H S) : tCall sp [] E t σ H Q :=
  mono _ _ (fun vs H h => by rw [List.append_nil]; exact h) h
theorem pe_cal (F : Cal X.prog X.w X.K X.mg X.base CX k x sp) (hr : Room k X.A) (hx : Passes CX X E) (ha : PA X (e :: es) t) (hg : Gl X x := by rfl) (hdb : (x == ("__debug__" : Str)) = false := by decide) (he : starEach (e :: es) X.env = (false, eval e X.env) :: starEach es X.env := by rfl)
    (hpl : (backTo pos (starEach es X.env)).any (·.1) = false := by rfl) : PE X (.Call (.Name x p) (e :: es) [] pos) (tCall sp [] E t) := by
  obtain ⟨f, fd, ps, e1, e2, e3, e4⟩ := F
  exact pe_call e3 hr hg e1 e2 e4 .nil hx ha hdb he hpl
theorem pe_calS {E : St → XK} (F : Cal X.prog X.w X.K X.mg X.base CX k x sp) (hr : Room k X.A) (hx : ∀ σ, PassesAt CX X σ (E σ)) (ha : PA X (e :: es) t) (hg : Gl X x := by rfl) (hdb : (x == ("__debug__" : Str)) = false := by decide) (he : starEach (e :: es) X.env = (false, eval e X.env) :: starEach es X.env := by rfl)
    (hpl : (backTo pos (starEach es X.env)).any (·.1) = false := by rfl) : PE X (.Call (.Name x p) (e :: es) [] pos) (tCallS sp E t) := by
  obtain ⟨f, fd, ps, e1, e2, e3, e4⟩ := F
  exact pe_callS e3 hr hg e1 e2 e4 hx ha hdb he hpl
theorem pe_calM {pl : Sem Bool} (he : PE X o ta) (c : Cls X.K C) (F : CalM X.prog X.w X.K X.mg X.base CX k C m sp) (hr : Room k X.A) (hx : Passes CX X E) (ha : PA X (e :: es) t)
    (hst : starEach (e :: es) X.env = (false, eval e X.env) :: starEach es X.env := by rfl) (hpl : (backTo pos (starEach es X.env)).any (·.1) = false := by rfl)
    (ht : eval (.Call (.Attribute o m apos) (e :: es) [] pos) X.env = (do
      let ov ← eval o X.env
      standAt apos.atName
      let (f, first) ← holding [ov] (getMethod ov m pl)
      callWith pos f first (backTo pos (starEach (e :: es) X.env)) (backToKw pos (keywordEach [] X.env))) := by rfl) :
    PE X (.Call (.Attribute o m apos) (e :: es) [] pos) (tMeth C m sp [] E ta t) := by
  obtain ⟨f, fd, ps, e1, e2, e3⟩ := F
  exact pe_meth he c e1 e2 hr e3 .nil hx ha hst hpl ht
theorem pe_calM0 {pl : Sem Bool} (he : PE X o ta) (c : Cls X.K C) (F : CalM X.prog X.w X.K X.mg X.base CX k C m sp) (hr : Room k X.A) (hx : Passes CX X E)
    (ht : eval (.Call (.Attribute o m apos) [] [] pos) X.env = (do
      let ov ← eval o X.env
      standAt apos.atName
      let (f, first) ← holding [ov] (getMethod ov m pl)
      callWith pos f first (backTo pos (starEach [] X.env)) (backToKw pos (keywordEach [] X.env))) := by rfl) :
    PE X (.Call (.Attribute o m apos) [] [] pos) (tMeth C m sp [] E ta tNil) := by
  obtain ⟨f, fd, ps, e1, e2, e3⟩ := F
  exact pe_meth0 he c e1 e2 hr e3 .nil hx ht
end
end K7

set_option Elab.async false
set_option linter.all false
set_option maxRecDepth 100000
set_option maxHeartbeats 2000000
/-! The text by places; what the top has left. Printed by gen_tx.py. -/
namespace K7
open PySem PySem.Spec PyProof.Rows L2

abbrev n_is_integer : List Str := ["value"]
theorem c_is_integer : FnScope n_is_integer ["value"] (defScope s_is_integer) := ⟨rfl, rfl, rfl, by decide +kernel, rfl, by decide +kernel, by decide +kernel⟩
abbrev n_common_divisor : List Str := ["one", "other"]
theorem c_common_divisor : FnScope n_common_divisor ["one", "other"] (defScope s_common_divisor) := ⟨rfl, rfl, rfl, by decide +kernel, rfl, by decide +kernel, by decide +kernel⟩
abbrev n_is_fraction : List Str := ["value"]
theorem c_is_fraction : FnScope n_is_fraction ["value"] (defScope s_is_fraction) := ⟨rfl, rfl, rfl, by decide +kernel, rfl, by decide +kernel, by decide +kernel⟩
abbrev n_is_load : List Str := ["value"]
theorem c_is_load : FnScope n_is_load ["value"] (defScope s_is_load) := ⟨rfl, rfl, rfl, by decide +kernel, rfl, by decide +kernel, by decide +kernel⟩
abbrev n_is_word : List Str := ["value", "letters", "letter"]
theorem c_is_word : FnScope n_is_word ["value", "letters"] (defScope s_is_word) := ⟨rfl, rfl, rfl, by decide +kernel, rfl, by decide +kernel, by decide +kernel⟩
abbrev n_is_name : List Str := ["value"]
theorem c_is_name : FnScope n_is_name ["value"] (defScope s_is_name) := ⟨rfl, rfl, rfl, by decide +kernel, rfl, by decide +kernel, by decide +kernel⟩
abbrev n_are_hooks : List Str := ["value", "name", "load"]
theorem c_are_hooks : FnScope n_are_hooks ["value"] (defScope s_are_hooks) := ⟨rfl, rfl, rfl, by decide +kernel, rfl, by decide +kernel, by decide +kernel⟩
abbrev n_are_anchors : List Str := ["value", "name", "height"]
theorem c_are_anchors : FnScope n_are_anchors ["value"] (defScope s_are_anchors) := ⟨rfl, rfl, rfl, by decide +kernel, rfl, by decide +kernel, by decide +kernel⟩
abbrev n_is_path : List Str := ["value", "points", "word"]
theorem c_is_path : FnScope n_is_path ["value", "points"] (defScope s_is_path) := ⟨rfl, rfl, rfl, by decide +kernel, rfl, by decide +kernel, by decide +kernel⟩
abbrev n_is_rope : List Str := ["value", "points"]
theorem c_is_rope : FnScope n_is_rope ["value", "points"] (defScope s_is_rope) := ⟨rfl, rfl, rfl, by decide +kernel, rfl, by decide +kernel, by decide +kernel⟩
abbrev n_ordered : List Str := ["parts", "name"]
theorem c_ordered : FnScope n_ordered ["parts"] (defScope s_ordered) := ⟨rfl, rfl, rfl, by decide +kernel, rfl, by decide +kernel, by decide +kernel⟩
abbrev n_check_known : List Str := ["name", "names"]
theorem c_check_known : FnScope n_check_known ["name", "names"] (defScope s_check_known) := ⟨rfl, rfl, rfl, by decide +kernel, rfl, by decide +kernel, by decide +kernel⟩
abbrev n_check_size : List Str := ["count", "most"]
theorem c_check_size : FnScope n_check_size ["count", "most"] (defScope s_check_size) := ⟨rfl, rfl, rfl, by decide +kernel, rfl, by decide +kernel, by decide +kernel⟩
abbrev n_Work_init : List Str := ["self", "hooks", "ropes", "anchors", "name"]
theorem c_Work_init : FnScope n_Work_init ["self", "hooks", "ropes", "anchors"] (defScope s_Work_init) := ⟨rfl, rfl, rfl, by decide +kernel, rfl, by decide +kernel, by decide +kernel⟩
abbrev n_Work_points : List Str := ["self"]
theorem c_Work_points : FnScope n_Work_points ["self"] (defScope s_Work_points) := ⟨rfl, rfl, rfl, by decide +kernel, rfl, by decide +kernel, by decide +kernel⟩
abbrev n_Work_with_load : List Str := ["self", "hook", "load"]
theorem c_Work_with_load : FnScope n_Work_with_load ["self", "hook", "load"] (defScope s_Work_with_load) := ⟨rfl, rfl, rfl, by decide +kernel, rfl, by decide +kernel, by decide +kernel⟩
abbrev n_Work_with_rope : List Str := ["self", "name", "path", "length", "ropes"]
theorem c_Work_with_rope : FnScope n_Work_with_rope ["self", "name", "path", "length"] (defScope s_Work_with_rope) := ⟨rfl, rfl, rfl, by decide +kernel, rfl, by decide +kernel, by decide +kernel⟩
abbrev n_Work_without_rope : List Str := ["self", "rope", "ropes", "name", "told"]
theorem c_Work_without_rope : FnScope n_Work_without_rope ["self", "rope"] (defScope s_Work_without_rope) := ⟨rfl, rfl, rfl, by decide +kernel, rfl, by decide +kernel, by decide +kernel⟩
abbrev n_Work_eq : List Str := ["self", "other"]
theorem c_Work_eq : FnScope n_Work_eq ["self", "other"] (defScope s_Work_eq) := ⟨rfl, rfl, rfl, by decide +kernel, rfl, by decide +kernel, by decide +kernel⟩
abbrev n_check_work : List Str := ["value"]
theorem c_check_work : FnScope n_check_work ["value"] (defScope s_check_work) := ⟨rfl, rfl, rfl, by decide +kernel, rfl, by decide +kernel, by decide +kernel⟩
abbrev n_applied : List Str := ["works", "entry", "name", "word", "rest", "work", "changed"]
theorem c_applied : FnScope n_applied ["works", "entry"] (defScope s_applied) := ⟨rfl, rfl, rfl, by decide +kernel, rfl, by decide +kernel, by decide +kernel⟩
abbrev n_Workshop_init : List Str := ["self", "works", "name"]
theorem c_Workshop_init : FnScope n_Workshop_init ["self", "works"] (defScope s_Workshop_init) := ⟨rfl, rfl, rfl, by decide +kernel, rfl, by decide +kernel, by decide +kernel⟩
abbrev n_Workshop_names : List Str := ["self"]
theorem c_Workshop_names : FnScope n_Workshop_names ["self"] (defScope s_Workshop_names) := ⟨rfl, rfl, rfl, by decide +kernel, rfl, by decide +kernel, by decide +kernel⟩
abbrev n_Workshop_entries : List Str := ["self"]
theorem c_Workshop_entries : FnScope n_Workshop_entries ["self"] (defScope s_Workshop_entries) := ⟨rfl, rfl, rfl, by decide +kernel, rfl, by decide +kernel, by decide +kernel⟩
abbrev n_Workshop_check : List Str := ["self", "user", "name"]
theorem c_Workshop_check : FnScope n_Workshop_check ["self", "user", "name"] (defScope s_Workshop_check) := ⟨rfl, rfl, rfl, by decide +kernel, rfl, by decide +kernel, by decide +kernel⟩
abbrev n_Workshop_record : List Str := ["self", "entry"]
theorem c_Workshop_record : FnScope n_Workshop_record ["self", "entry"] (defScope s_Workshop_record) := ⟨rfl, rfl, rfl, by decide +kernel, rfl, by decide +kernel, by decide +kernel⟩
abbrev n_Workshop_set_load : List Str := ["self", "user", "name", "hook", "load"]
theorem c_Workshop_set_load : FnScope n_Workshop_set_load ["self", "user", "name", "hook", "load"] (defScope s_Workshop_set_load) := ⟨rfl, rfl, rfl, by decide +kernel, rfl, by decide +kernel, by decide +kernel⟩
abbrev n_Workshop_set_rope : List Str := ["self", "user", "name", "rope", "path", "length"]
theorem c_Workshop_set_rope : FnScope n_Workshop_set_rope ["self", "user", "name", "rope", "path", "length"] (defScope s_Workshop_set_rope) := ⟨rfl, rfl, rfl, by decide +kernel, rfl, by decide +kernel, by decide +kernel⟩
abbrev n_Workshop_drop_rope : List Str := ["self", "user", "name", "rope"]
theorem c_Workshop_drop_rope : FnScope n_Workshop_drop_rope ["self", "user", "name", "rope"] (defScope s_Workshop_drop_rope) := ⟨rfl, rfl, rfl, by decide +kernel, rfl, by decide +kernel, by decide +kernel⟩
abbrev n_Workshop_undo : List Str := ["self", "user", "places", "index", "entry", "entries", "works", "removed"]
theorem c_Workshop_undo : FnScope n_Workshop_undo ["self", "user"] (defScope s_Workshop_undo) := ⟨rfl, rfl, rfl, by decide +kernel, rfl, by decide +kernel, by decide +kernel⟩
abbrev n_Workshop_work : List Str := ["self", "name"]
theorem c_Workshop_work : FnScope n_Workshop_work ["self", "name"] (defScope s_Workshop_work) := ⟨rfl, rfl, rfl, by decide +kernel, rfl, by decide +kernel, by decide +kernel⟩
abbrev n_Workshop_len : List Str := ["self"]
theorem c_Workshop_len : FnScope n_Workshop_len ["self"] (defScope s_Workshop_len) := ⟨rfl, rfl, rfl, by decide +kernel, rfl, by decide +kernel, by decide +kernel⟩
abbrev n_law_pool : List Str := ["_law_script", "_law_k", "_law_cell", "_law_great", "_law_mixed"]
theorem c_law_pool : FnScope n_law_pool ["_law_script", "_law_k"] (defScope s_law_pool) := ⟨rfl, rfl, rfl, by decide +kernel, rfl, by decide +kernel, by decide +kernel⟩
abbrev n_law_draw : List Str := ["_law_pool_here", "_law_many", "_law_found"]
theorem c_law_draw : FnScope n_law_draw ["_law_pool_here", "_law_many"] (defScope s_law_draw) := ⟨rfl, rfl, rfl, by decide +kernel, rfl, by decide +kernel, by decide +kernel⟩
abbrev n_law_gcd : List Str := ["_law_a", "_law_b"]
theorem c_law_gcd : FnScope n_law_gcd ["_law_a", "_law_b"] (defScope s_law_gcd) := ⟨rfl, rfl, rfl, by decide +kernel, rfl, by decide +kernel, by decide +kernel⟩
abbrev n_law_made : List Str := ["_law_numerator", "_law_denominator", "_law_divisor"]
theorem c_law_made : FnScope n_law_made ["_law_numerator", "_law_denominator"] (defScope s_law_made) := ⟨rfl, rfl, rfl, by decide +kernel, rfl, by decide +kernel, by decide +kernel⟩
abbrev n_law_add : List Str := ["_law_a", "_law_b"]
theorem c_law_add : FnScope n_law_add ["_law_a", "_law_b"] (defScope s_law_add) := ⟨rfl, rfl, rfl, by decide +kernel, rfl, by decide +kernel, by decide +kernel⟩
abbrev n_law_mul : List Str := ["_law_a", "_law_b"]
theorem c_law_mul : FnScope n_law_mul ["_law_a", "_law_b"] (defScope s_law_mul) := ⟨rfl, rfl, rfl, by decide +kernel, rfl, by decide +kernel, by decide +kernel⟩
abbrev n_law_sum : List Str := ["_law_numbers", "_law_result", "_law_number_here"]
theorem c_law_sum : FnScope n_law_sum ["_law_numbers"] (defScope s_law_sum) := ⟨rfl, rfl, rfl, by decide +kernel, rfl, by decide +kernel, by decide +kernel⟩
abbrev n_law_number : List Str := ["_law_pool_here", "_law_choice"]
theorem c_law_number : FnScope n_law_number ["_law_pool_here"] (defScope s_law_number) := ⟨rfl, rfl, rfl, by decide +kernel, rfl, by decide +kernel, by decide +kernel⟩
abbrev n_law_signed : List Str := ["_law_pool_here", "_law_number_here"]
theorem c_law_signed : FnScope n_law_signed ["_law_pool_here"] (defScope s_law_signed) := ⟨rfl, rfl, rfl, by decide +kernel, rfl, by decide +kernel, by decide +kernel⟩
abbrev n_law_path : List Str := ["_law_pool_here", "_law_points", "_law_found", "_law_turn", "_law_other", "_law_is_great", "_law_direction"]
theorem c_law_path : FnScope n_law_path ["_law_pool_here", "_law_points"] (defScope s_law_path) := ⟨rfl, rfl, rfl, by decide +kernel, rfl, by decide +kernel, by decide +kernel⟩
abbrev n_law_coefficient : List Str := ["_law_path_here", "_law_point", "_law_found", "_law_index", "_law_lower", "_law_upper"]
theorem c_law_coefficient : FnScope n_law_coefficient ["_law_path_here", "_law_point"] (defScope s_law_coefficient) := ⟨rfl, rfl, rfl, by decide +kernel, rfl, by decide +kernel, by decide +kernel⟩
abbrev n_law_carried : List Str := ["_law_ropes", "_law_pulls", "_law_hook", "_law_name"]
theorem c_law_carried : FnScope n_law_carried ["_law_ropes", "_law_pulls", "_law_hook"] (defScope s_law_carried) := ⟨rfl, rfl, rfl, by decide +kernel, rfl, by decide +kernel, by decide +kernel⟩
abbrev n_law_given : List Str := ["_law_pool_here", "_law_most_hooks", "_law_most_ropes", "_law_hooks", "_law_fixed", "_law_name", "_law_ropes", "_law_length", "_law_loads", "_law_hook", "_law_pulls", "_law_carried_here", "_law_load"]
theorem c_law_given : FnScope n_law_given ["_law_pool_here", "_law_most_hooks", "_law_most_ropes"] (defScope s_law_given) := ⟨rfl, rfl, rfl, by decide +kernel, rfl, by decide +kernel, by decide +kernel⟩
abbrev n_law_built : List Str := ["_law_given_here"]
theorem c_law_built : FnScope n_law_built ["_law_given_here"] (defScope s_law_built) := ⟨rfl, rfl, rfl, by decide +kernel, rfl, by decide +kernel, by decide +kernel⟩
abbrev n_law_add_rope : List Str := ["_law_given_here", "_law_name", "_law_path_here", "_law_ropes"]
theorem c_law_add_rope : FnScope n_law_add_rope ["_law_given_here", "_law_name", "_law_path_here"] (defScope s_law_add_rope) := ⟨rfl, rfl, rfl, by decide +kernel, rfl, by decide +kernel, by decide +kernel⟩
abbrev n_law_entry : List Str := ["_law_pool_here", "_law_states", "_law_user", "_law_name", "_law_given_here", "_law_choice", "_law_hook", "_law_names", "_law_points", "_law_paths", "_law_length"]
theorem c_law_entry : FnScope n_law_entry ["_law_pool_here", "_law_states"] (defScope s_law_entry) := ⟨rfl, rfl, rfl, by decide +kernel, rfl, by decide +kernel, by decide +kernel⟩
abbrev n_law_path_holds : List Str := ["_law_path_here", "_law_points", "_law_point"]
theorem c_law_path_holds : FnScope n_law_path_holds ["_law_path_here", "_law_points"] (defScope s_law_path_holds) := ⟨rfl, rfl, rfl, by decide +kernel, rfl, by decide +kernel, by decide +kernel⟩
abbrev n_law_due : List Str := ["_law_states", "_law_entry_here", "_law_given_here"]
theorem c_law_due : FnScope n_law_due ["_law_states", "_law_entry_here"] (defScope s_law_due) := ⟨rfl, rfl, rfl, by decide +kernel, rfl, by decide +kernel, by decide +kernel⟩
abbrev n_law_made_entry : List Str := ["_law_states", "_law_entry_here", "_law_found", "_law_loads", "_law_ropes"]
theorem c_law_made_entry : FnScope n_law_made_entry ["_law_states", "_law_entry_here"] (defScope s_law_made_entry) := ⟨rfl, rfl, rfl, by decide +kernel, rfl, by decide +kernel, by decide +kernel⟩
abbrev n_law_undone : List Str := ["_law_first", "_law_entries", "_law_user", "_law_places", "_law_index", "_law_entry_here", "_law_left", "_law_states", "_law_due_here"]
theorem c_law_undone : FnScope n_law_undone ["_law_first", "_law_entries", "_law_user"] (defScope s_law_undone) := ⟨rfl, rfl, rfl, by decide +kernel, rfl, by decide +kernel, by decide +kernel⟩
abbrev n_law_done : List Str := ["_law_shop", "_law_entry_here", "error"]
theorem c_law_done : FnScope n_law_done ["_law_shop", "_law_entry_here"] (defScope s_law_done) := ⟨rfl, rfl, rfl, by decide +kernel, rfl, by decide +kernel, by decide +kernel⟩
abbrev n_law_shows : List Str := ["_law_shop", "_law_states", "_law_entries", "_law_name"]
theorem c_law_shows : FnScope n_law_shows ["_law_shop", "_law_states", "_law_entries"] (defScope s_law_shows) := ⟨rfl, rfl, rfl, by decide +kernel, rfl, by decide +kernel, by decide +kernel⟩
abbrev n_law : List Str := ["_law_script", "_law_pool_here", "_law_first", "_law_name", "_law_shop", "_law_states", "_law_entries", "_law_k", "_law_entry_here", "_law_due_here", "_law_left", "_law_after"]
theorem c_law : FnScope n_law ["_law_script"] (defScope s_law) := ⟨rfl, rfl, rfl, by decide +kernel, rfl, by decide +kernel, by decide +kernel⟩
structure TX (P : Program) (K : PySem.W.Frag) (mg : Str → Option Value) : Prop where
  g_is_integer : GFun K mg "is_integer" s_is_integer
  g_common_divisor : GFun K mg "common_divisor" s_common_divisor
  g_is_fraction : GFun K mg "is_fraction" s_is_fraction
  g_is_load : GFun K mg "is_load" s_is_load
  g_is_word : GFun K mg "is_word" s_is_word
  g_is_name : GFun K mg "is_name" s_is_name
  g_are_hooks : GFun K mg "are_hooks" s_are_hooks
  g_are_anchors : GFun K mg "are_anchors" s_are_anchors
  g_is_path : GFun K mg "is_path" s_is_path
  g_is_rope : GFun K mg "is_rope" s_is_rope
  g_ordered : GFun K mg "ordered" s_ordered
  g_check_known : GFun K mg "check_known" s_check_known
  g_check_size : GFun K mg "check_size" s_check_size
  mk_W : Mk K (ga K "Work") (ma K (ga K "Work") "__init__")
  i_W : ∃ fd, FunD K "__init__" "Work.__init__" (defArgs s_Work_init) (defBody s_Work_init) (defScope s_Work_init) [] [("anchors", .non)] (ma K (ga K "Work") "__init__") fd
  m_Work_points : MFun K "Work" "points" "Work.points" s_Work_points
  m_Work_with_load : MFun K "Work" "with_load" "Work.with_load" s_Work_with_load
  m_Work_with_rope : MFun K "Work" "with_rope" "Work.with_rope" s_Work_with_rope
  m_Work_without_rope : MFun K "Work" "without_rope" "Work.without_rope" s_Work_without_rope
  m_Work_eq : MFun K "Work" "__eq__" "Work.__eq__" s_Work_eq
  g_check_work : GFun K mg "check_work" s_check_work
  g_applied : GFun K mg "applied" s_applied
  mk_S : Mk K (ga K "Workshop") (ma K (ga K "Workshop") "__init__")
  i_S : ∃ fd, Fun K "__init__" "Workshop.__init__" s_Workshop_init (ma K (ga K "Workshop") "__init__") fd
  p_Workshop_names : ∃ p g fd, PropOf K (ga K "Workshop") "names" p g ∧ Fun K "names" "Workshop.names" s_Workshop_names g fd
  p_Workshop_entries : ∃ p g fd, PropOf K (ga K "Workshop") "entries" p g ∧ Fun K "entries" "Workshop.entries" s_Workshop_entries g fd
  m_Workshop_check : MFun K "Workshop" "check" "Workshop.check" s_Workshop_check
  m_Workshop_record : MFun K "Workshop" "record" "Workshop.record" s_Workshop_record
  m_Workshop_set_load : MFun K "Workshop" "set_load" "Workshop.set_load" s_Workshop_set_load
  m_Workshop_set_rope : MFun K "Workshop" "set_rope" "Workshop.set_rope" s_Workshop_set_rope
  m_Workshop_drop_rope : MFun K "Workshop" "drop_rope" "Workshop.drop_rope" s_Workshop_drop_rope
  m_Workshop_undo : MFun K "Workshop" "undo" "Workshop.undo" s_Workshop_undo
  m_Workshop_work : MFun K "Workshop" "work" "Workshop.work" s_Workshop_work
  m_Workshop_len : MFun K "Workshop" "__len__" "Workshop.__len__" s_Workshop_len
  g_law_pool : GFun K mg "_law_pool" s_law_pool
  g_law_draw : GFun K mg "_law_draw" s_law_draw
  g_law_gcd : GFun K mg "_law_gcd" s_law_gcd
  g_law_made : GFun K mg "_law_made" s_law_made
  g_law_add : GFun K mg "_law_add" s_law_add
  g_law_mul : GFun K mg "_law_mul" s_law_mul
  g_law_sum : GFun K mg "_law_sum" s_law_sum
  g_law_number : GFun K mg "_law_number" s_law_number
  g_law_signed : GFun K mg "_law_signed" s_law_signed
  g_law_path : GFun K mg "_law_path" s_law_path
  g_law_coefficient : GFun K mg "_law_coefficient" s_law_coefficient
  g_law_carried : GFun K mg "_law_carried" s_law_carried
  g_law_given : GFun K mg "_law_given" s_law_given
  g_law_built : GFun K mg "_law_built" s_law_built
  g_law_add_rope : GFun K mg "_law_add_rope" s_law_add_rope
  g_law_entry : GFun K mg "_law_entry" s_law_entry
  g_law_path_holds : GFun K mg "_law_path_holds" s_law_path_holds
  g_law_due : GFun K mg "_law_due" s_law_due
  g_law_made_entry : GFun K mg "_law_made_entry" s_law_made_entry
  g_law_undone : GFun K mg "_law_undone" s_law_undone
  g_law_done : GFun K mg "_law_done" s_law_done
  g_law_shows : GFun K mg "_law_shows" s_law_shows
  g_law : GFun K mg "law" s_law
  g_W : mg "Work" = some (.ref (ga K "Work"))
  c_W : Cls K (ga K "Work")
  g_S : mg "Workshop" = some (.ref (ga K "Workshop"))
  c_S : Cls K (ga K "Workshop")
  a_own_loads : NoAttr K (ga K "Work") "own_loads"
  a_own_heights : NoAttr K (ga K "Work") "own_heights"
  a_own_ropes : NoAttr K (ga K "Work") "own_ropes"
  a_first_works : NoAttr K (ga K "Workshop") "first_works"
  a_own_works : NoAttr K (ga K "Workshop") "own_works"
  a_own_entries : NoAttr K (ga K "Workshop") "own_entries"
  ne_WS : ga K "Work" ≠ ga K "Workshop"
  w_ha : PySem.W.findIn K (.ref (ga K "Work")) "__class__" = some (some (.builtin "object.__class__"))
  w_hn : PySem.W.specialIn K (.builtin "object.__class__") "__get__" = some (some (.builtin "getset_descriptor.__get__"))
  w_htk : PySem.W.takesIn K (.builtin "object.__class__") = some true
  w_hm : PySem.W.mroIn K (ga K "Work") (.type "object") = some true
  i_MAX_HOOKS : ∃ t, mg "MAX_HOOKS" = some (.int 8 t)
  i_MAX_ANCHORS : ∃ t, mg "MAX_ANCHORS" = some (.int 8 t)
  i_MAX_ROPES : ∃ t, mg "MAX_ROPES" = some (.int 10 t)
  i_MAX_POINTS : ∃ t, mg "MAX_POINTS" = some (.int 12 t)
  i_MAX_LETTERS : ∃ t, mg "MAX_LETTERS" = some (.int 8 t)
  i_MAX_WORKS : ∃ t, mg "MAX_WORKS" = some (.int 10 t)
  s_SMALL : ∃ t, mg "SMALL" = some (.str "abcdefghijklmnopqrstuvwxyz" t)
  s_GREAT : ∃ t, mg "GREAT" = some (.str "ABCDEFGHIJKLMNOPQRSTUVWXYZ" t)
  g_DIR : mg "DIRECTIONS" = some (.ref (ga K "DIRECTIONS"))
  t_DIR : ∀ H : Hp, SqT K H (ga K "DIRECTIONS") [.str "up", .str "down"]
  f_len : mg "len" = none
  f_abs : mg "abs" = none
  f_isinstance : mg "isinstance" = none
  f_all : mg "all" = none
  f_sorted : mg "sorted" = none
  f_dict : mg "dict" = none
  f_list : mg "list" = none
  f_tuple : mg "tuple" = none
  f_int : mg "int" = none
  f_str : mg "str" = none
  f_bool : mg "bool" = none
  f_range : mg "range" = none
  f_enumerate : mg "enumerate" = none
  f_min : mg "min" = none
  f_max : mg "max" = none
  f_sum : mg "sum" = none
  x_InvalidNumber : ∃ fI, XTxt P K mg "InvalidNumber" "value" (ga K "InvalidNumber") fI "ValueError" "ValueError.__init__" "ValueError" "ValueError.__new__"
  x_InvalidName : ∃ fI, XTxt P K mg "InvalidName" "value" (ga K "InvalidName") fI "ValueError" "ValueError.__init__" "ValueError" "ValueError.__new__"
  x_InvalidRope : ∃ fI, XTxt P K mg "InvalidRope" "name" (ga K "InvalidRope") fI "ValueError" "ValueError.__init__" "ValueError" "ValueError.__new__"
  x_InvalidWork : ∃ fI, XTxt P K mg "InvalidWork" "part" (ga K "InvalidWork") fI "ValueError" "ValueError.__init__" "ValueError" "ValueError.__new__"
  x_LimitExceeded : ∃ fI, XTxt P K mg "LimitExceeded" "count" (ga K "LimitExceeded") fI "OverflowError" "OverflowError.__init__" "OverflowError" "OverflowError.__new__"
  x_UnknownName : ∃ fI, XTxt P K mg "UnknownName" "name" (ga K "UnknownName") fI "KeyError" "KeyError.__init__" "LookupError" "LookupError.__new__"
  exm : ∀ x ∈ exNames, ∀ y ∈ exNames, PySem.W.exmOne K (.ref (ga K x)) (.ref (ga K y)) = some (decide (x = y))
  n_g : mg "NothingToUndo" = some (.ref (ga K "NothingToUndo"))
  n_x : PySem.W.excIn K (ga K "NothingToUndo") [.type "RuntimeError", .type "Exception", .type "BaseException", .type "object"] "RuntimeError.__new__" = true
  n_k : PySem.W.keepIn K (.ref (ga K "NothingToUndo")) = true
  n_b : PySem.W.subIn K (.ref (ga K "NothingToUndo")) (.type "BaseException") = some true
  n_t : PySem.W.typeIn K (.ref (ga K "NothingToUndo")) = some (.type "type")
end K7

set_option Elab.async false
set_option linter.all false
set_option maxRecDepth 100000
set_option maxHeartbeats 2000000
/-! Numbers. -/
namespace K7
open PySem PySem.Spec PyProof.Rows L2
abbrev Fr := Int × Int
def FrOk (q : Fr) : Prop := 1 ≤ q.2 ∧ Int.gcd q.1 q.2 = 1
instance (q : Fr) : Decidable (FrOk q) := inferInstanceAs (Decidable (_ ∧ _))
def LdOk (q : Fr) : Prop := FrOk q ∧ 0 ≤ q.1
instance (q : Fr) : Decidable (LdOk q) := inferInstanceAs (Decidable (_ ∧ _))
def dFr (q : Fr) : PyData := .tuple [.int q.1, .int q.2]
/-- a pair of ints -/
theorem dFr_inv {H : Hp} {v : V} {q : Fr} (h : Dt H v (dFr q)) : ∃ a, v = .ref a ∧ H a = some (.tup [.int q.1, .int q.2]) := by
  cases h with
  | tup e t =>
    cases t with
    | cons h1 t =>
      cases t with
      | cons h2 t =>
        cases t
        cases h1
        cases h2
        exact ⟨_, rfl, e⟩
theorem dFr_mk {H : Hp} {a : Addr} {q : Fr} (e : H a = some (.tup [.int q.1, .int q.2])) : Dt H (.ref a) (dFr q) := .tup e (.cons (.int _) (.cons (.int _) .nil))
theorem gcd_step (a b : Int) (h : b ≠ 0) : Int.gcd b (a.fmod b) = Int.gcd a b := by
  have e : a.fmod b = a + b * (-(a.fdiv b)) := by
    have := Int.mul_fdiv_add_fmod a b
    rw [Int.mul_neg]
    omega
  rw [e, Int.gcd_add_mul_left_right, Int.gcd_comm]
def spInt1 : Sp := fun vs H Q _ => ∃ i : Int, vs = [.int i] ∧ Q (.bl true) H
def spGcd : Sp := fun vs H Q _ => ∃ a b : Int, vs = [.int a, .int b] ∧ Q (.int (Int.gcd a b : Int)) H
def spIsFr : Sp := fun vs H Q _ => ∃ (v : V) (q : Fr), vs = [v] ∧ Dt H v (dFr q) ∧ Q (.bl (decide (FrOk q))) H
def spIsLd : Sp := fun vs H Q _ => ∃ (v : V) (q : Fr), vs = [v] ∧ Dt H v (dFr q) ∧ Q (.bl (decide (LdOk q))) H
section
variable {P : Program} {w : World} {K : PySem.W.Frag} {mg : Str → Option Value} {base : Heap}
theorem cal_is_integer (T : TX P K mg) : Cal P w K mg base CX0 1 "is_integer" spInt1 := T.g_is_integer.cal (ps := ["value"]) (fun f fd F => by
  refine F.ok c_is_integer (fun vs H Q E h => ?_) (fun cdv A outer s H vs Q E hr h => ?_)
  · obtain ⟨i, rfl, _⟩ := h
    rfl
  · obtain ⟨i, rfl, k⟩ := h
    refine ⟨_, pss_one (ps_ret (pe_and (pe_callB call_isi (by rfl) T.f_isinstance boot_isinstance (pa_cons (pv 0) (pa_cons (pe_bltn (v := .ty "int") (by rfl) T.f_int (by decide +kernel) rfl) pa_nil)))
      (pe_one (pe_not (pe_callB call_isi (by rfl) T.f_isinstance boot_isinstance (pa_cons (pv 0) (pa_cons (pe_bltn (v := .ty "bool") (by rfl) T.f_bool (by decide +kernel) rfl) pa_nil))))))), ?_⟩
    refine ⟨_, rfl, _, _, _, _, true, rfl, .ty _, .base (.int i), kit_ty (by decide +kernel), true, rfl, iteT ?_⟩
    exact ⟨_, rfl, _, _, _, _, false, rfl, .ty _, .base (.int i), kit_ty (by decide +kernel), false, rfl, k⟩) (fun _ _ _ _ _ _ us hl => match us, hl with | [_], _ => rfl)
theorem cal_common_divisor (T : TX P K mg) : Cal P w K mg base CX0 1 "common_divisor" spGcd := T.g_common_divisor.cal (ps := ["one", "other"]) (fun f fd F => by
  refine F.ok c_common_divisor (fun vs H Q E h => ?_) (fun cdv A outer s H vs Q E hr h => ?_)
  · obtain ⟨a, b, rfl, _⟩ := h
    rfl
  · obtain ⟨a, b, rfl, k⟩ := h
    refine ⟨_, pss_cons (ps_par (i := 0) (j := 1) (by rfl) c_common_divisor.nd rfl rfl (by decide) rfl rfl (pa_cons (pe_callB call_abs (by rfl) T.f_abs boot_abs (pa_cons (pv 0) pa_nil)) (pa_cons (pe_callB call_abs (by rfl) T.f_abs boot_abs (pa_cons (pv 1) pa_nil)) pa_nil)) (by rfl))
      (pss_cons (ps_while PassesOwn.never (pt_cmpR op_gt (pv 1) pe_int (nomark _)) (pss_one (ps_par (i := 0) (j := 1) (by rfl) c_common_divisor.nd rfl rfl (by decide) rfl rfl (pa_cons (pv 1) (pa_cons (pe_op op_modN (pv 0) (pv 1)) pa_nil)) (by rfl))))
      (pss_one (ps_ret (pv 0)))), ?_⟩
    refine ⟨_, rfl, _, rfl, _, rfl, _, rfl, _, _, rfl, ?_⟩
    refine while_by (fun σ H2 => ∃ x y : Int, σ = [some (.int x), some (.int y)] ∧ H2 = H ∧ 0 ≤ x ∧ 0 ≤ y ∧ Int.gcd x y = Int.gcd a b) (fun σ _ => match σ with | [_, some (.int y)] => y.natAbs | _ => 0) ?_ ?_ ?_
    · refine ⟨_, _, rfl, rfl, ?_, ?_, ?_⟩
      · split <;> omega
      · split <;> omega
      · split <;> split <;> simp only [Int.neg_gcd, Int.gcd_neg]
    · rintro σ H2 ⟨x, y, rfl, rfl, hx, hy, hg⟩
      refine ⟨_, rfl, _, _, rfl, rfl, _, rfl, ?_⟩
      refine ite2 (fun hc => ?_) (fun hc => ?_)
      · have hy0 : 0 < y := of_decide_eq_true hc
        refine ⟨_, rfl, _, rfl, _, rfl, _, _, rfl, rfl, by omega, _, _, rfl, ?_⟩
        refine ⟨⟨_, _, rfl, rfl, hy, Int.fmod_nonneg_of_pos x hy0, by rw [gcd_step x y (by omega), hg]⟩, ?_⟩
        show (x.fmod y).natAbs < y.natAbs
        have h1 := Int.fmod_nonneg_of_pos x hy0
        have h2 := Int.fmod_lt_of_pos x hy0
        omega
      · have hy0 : ¬ 0 < y := fun z => hc (decide_eq_true z)
        have e : y = 0 := by omega
        subst e
        refine ⟨_, rfl, ?_⟩
        have e2 : x = ((Int.gcd a b : Nat) : Int) := by rw [← hg, Int.gcd_zero_right]; omega
        rw [e2]
        exact k
    · rintro σ H2 Q Q' hq ⟨v, e1, i, j, e2, e3, b2, e4, z⟩
      exact ⟨v, e1, i, j, e2, e3, b2, e4, hq _ _ z⟩) (fun _ _ _ _ _ _ us hl => match us, hl with | [_, _], _ => rfl)
theorem cal_is_fraction (T : TX P K mg) : Cal P w K mg base CX0 2 "is_fraction" spIsFr := T.g_is_fraction.cal (ps := ["value"]) (fun f fd F => by
  refine F.ok c_is_fraction (fun vs H Q E h => ?_) (fun cdv A outer s H vs Q E hr h => ?_)
  · obtain ⟨v, q, rfl, _⟩ := h
    rfl
  · obtain ⟨v, q, rfl, d, k⟩ := h
    obtain ⟨a, rfl, ha⟩ := dFr_inv d
    refine ⟨_, pss_cons (ps_if (PW.pt (pw_or (pt_not (pt_val (pe_callB call_isi (by rfl) T.f_isinstance boot_isinstance (pa_cons (pv 0) (pa_cons (pe_bltn (v := .ty "tuple") (by rfl) T.f_tuple (by decide +kernel) rfl) pa_nil)))))
          (pw_or1 (pt_cmpR op_ne (pe_callB call_len_seq (by rfl) T.f_len PySem.boot_len (pa_cons (pv 0) pa_nil)) pe_int (nomark _))))) (pss_one (ps_ret pe_bl)) pss_nil)
      (pss_cons (ps_if (PW.pt (pw_or (pt_not (pt_val (pe_cal (cal_is_integer T) hr pass0 (pa_cons (pe_ix ix_tup (pv 0) pe_int (fun _ _ => rfl)) pa_nil))))
        (pw_or (pt_not (pt_val (pe_cal (cal_is_integer T) hr pass0 (pa_cons (pe_ix ix_tup (pv 0) pe_int (fun _ _ => rfl)) pa_nil))))
          (pw_or1 (pt_cmpR op_lt (pe_ix ix_tup (pv 0) pe_int (fun _ _ => rfl)) pe_int (nomark _)))))) (pss_one (ps_ret pe_bl)) pss_nil)
      (pss_one (ps_ret (pe_cmpR op_eq (pe_cal (cal_common_divisor T) hr pass0 (pa_cons (pe_ix ix_tup (pv 0) pe_int (fun _ _ => rfl)) (pa_cons (pe_ix ix_tup (pv 0) pe_int (fun _ _ => rfl)) pa_nil))) pe_int (nomark _))))), ?_⟩
    refine ⟨_, rfl, _, _, _, _, true, rfl, .ty _, .base (.tup ha), kit_ty (by decide +kernel), _, rfl, iteF ?_⟩
    refine ⟨_, rfl, _, _, rfl, .inr (SqT.of ha), rfl, _, rfl, iteF ?_⟩
    refine ⟨_, rfl, _, _, _, _, rfl, rfl, SqT.of ha, rfl, _, rfl, _, rfl, iteF ?_⟩
    refine ⟨_, rfl, _, _, _, _, rfl, rfl, SqT.of ha, rfl, _, rfl, _, rfl, iteF ?_⟩
    refine ⟨_, rfl, _, _, _, _, rfl, rfl, SqT.of ha, rfl, _, _, rfl, rfl, _, rfl, ?_⟩
    refine ite2 (fun hc => ?_) (fun hc => ?_)
    · have h1 : q.2 < 1 := of_decide_eq_true hc
      have e : decide (FrOk q) = false := decide_eq_false fun z => by have := z.1; omega
      rw [e] at k
      exact k
    · have h1 : ¬ q.2 < 1 := fun z => hc (decide_eq_true z)
      refine ⟨_, rfl, _, _, _, _, rfl, rfl, SqT.of ha, rfl, _, rfl, _, _, _, _, rfl, rfl, SqT.of ha, rfl, ?_⟩
      refine ⟨_, _, rfl, rfl, ?_⟩
      have e : decide (V.int (Int.gcd q.1 q.2 : Int) = V.int 1) = decide (FrOk q) := decide_eq_decide.mpr ⟨fun z => ⟨by omega, by injection z with z; exact Int.ofNat.inj z⟩, fun z => by rw [z.2]; rfl⟩
      rw [← e] at k
      exact k) (fun _ _ _ _ _ _ us hl => match us, hl with | [_], _ => rfl)
theorem cal_is_load (T : TX P K mg) : Cal P w K mg base CX0 3 "is_load" spIsLd := T.g_is_load.cal (ps := ["value"]) (fun f fd F => by
  refine F.ok c_is_load (fun vs H Q E h => ?_) (fun cdv A outer s H vs Q E hr h => ?_)
  · obtain ⟨v, q, rfl, _⟩ := h
    rfl
  · obtain ⟨v, q, rfl, d, k⟩ := h
    obtain ⟨a, rfl, ha⟩ := dFr_inv d
    refine ⟨_, pss_one (ps_ret (pe_and (pe_cal (cal_is_fraction T) hr pass0 (pa_cons (pv 0) pa_nil)) (pe_one (pe_cmpR op_ge (pe_ix ix_tup (pv 0) pe_int (fun _ _ => rfl)) pe_int (nomark _))))), ?_⟩
    refine ⟨_, rfl, _, q, rfl, d, _, rfl, ite2 (fun hc => ?_) (fun hc => ?_)⟩
    · refine ⟨_, rfl, _, _, _, _, rfl, rfl, SqT.of ha, rfl, _, _, rfl, rfl, ?_⟩
      have h1 : FrOk q := of_decide_eq_true hc
      have e : decide (LdOk q) = decide (q.1 ≥ 0) := decide_eq_decide.mpr ⟨fun z => z.2, fun z => ⟨h1, z⟩⟩
      rw [e] at k
      exact k
    · have h1 : ¬ FrOk q := fun z => hc (decide_eq_true z)
      have e : decide (LdOk q) = false := decide_eq_false fun z => h1 z.1
      rw [e] at k
      exact k) (fun _ _ _ _ _ _ us hl => match us, hl with | [_], _ => rfl)
end
end K7

set_option Elab.async false
set_option linter.all false
set_option maxRecDepth 100000
set_option maxHeartbeats 2000000
/-! The law's fractions and draws. -/
namespace K7
open PySem PySem.Spec PyProof.Rows L2
def mkF (n d : Int) : Fr := (n / (Int.gcd n d : Int), d / (Int.gcd n d : Int))
def FrB (k : Nat) (q : Fr) : Prop := q.1.natAbs < 2 ^ k ∧ q.2.natAbs < 2 ^ k
def addF (a b : Fr) : Fr := mkF (a.1 * b.2 + b.1 * a.2) (a.2 * b.2)
def mulF (a b : Fr) : Fr := mkF (a.1 * b.1) (a.2 * b.2)
theorem gcd_pos {n d : Int} (h : 0 < d) : 0 < (Int.gcd n d : Int) := by
  have : 0 < Int.gcd n d := Int.gcd_pos_of_ne_zero_right _ (by omega)
  omega
theorem mkF_ok {n d : Int} (h : 0 < d) : FrOk (mkF n d) := by
  have hg := gcd_pos (n := n) h
  have hd : (Int.gcd n d : Int) ∣ d := Int.gcd_dvd_right _ _
  have hn : (Int.gcd n d : Int) ∣ n := Int.gcd_dvd_left _ _
  refine ⟨?_, ?_⟩
  · have h1 : (Int.gcd n d : Int) ≤ d := Int.le_of_dvd h hd
    have h2 : 0 < d / (Int.gcd n d : Int) := Int.ediv_pos_of_pos_of_dvd h (by omega) hd
    exact h2
  · show Int.gcd (n / _) (d / _) = 1
    rw [Int.gcd_ediv hn hd, Int.natAbs_natCast]
    exact Nat.div_self (by omega)
theorem div_b {a g : Int} {k : Nat} (hg : 0 < g) (hd : g ∣ a) (h : a.natAbs < 2 ^ k) : (a / g).natAbs < 2 ^ k := by
  rw [Int.natAbs_ediv_of_dvd hd]
  exact Nat.lt_of_le_of_lt (Nat.div_le_self _ _) h
theorem mkF_b {n d : Int} {k : Nat} (h : 0 < d) (hn : n.natAbs < 2 ^ k) (hd : d.natAbs < 2 ^ k) : FrB k (mkF n d) :=
  ⟨div_b (gcd_pos h) (Int.gcd_dvd_left _ _) hn, div_b (gcd_pos h) (Int.gcd_dvd_right _ _) hd⟩
theorem mkF_nn {n d : Int} (h : 0 < d) (hn : 0 ≤ n) : 0 ≤ (mkF n d).1 := Int.ediv_nonneg hn (by have := gcd_pos (n := n) h; omega)
theorem FrB.mono {j k : Nat} {q : Fr} (h : FrB j q) (l : j ≤ k) : FrB k q := ⟨Nat.lt_of_lt_of_le h.1 (Nat.pow_le_pow_right (by decide) l), Nat.lt_of_lt_of_le h.2 (Nat.pow_le_pow_right (by decide) l)⟩
theorem addF_b {a b : Fr} {j k : Nat} (ha : FrB j a) (hb : FrB k b) (pa : 0 < a.2) (pb : 0 < b.2) : FrB (j + k + 1) (addF a b) := by
  have h1 := wide_lt ha.1 hb.2
  have h2 := wide_lt hb.1 ha.2
  have h3 := wide_lt ha.2 hb.2
  rw [Nat.add_comm k j] at h2
  refine mkF_b (Int.mul_pos pa pb) ?_ ?_
  · have := Int.natAbs_add_le (a.1 * b.2) (b.1 * a.2)
    rw [Nat.pow_succ]
    omega
  · rw [Nat.pow_succ]
    omega
theorem mulF_b {a b : Fr} {j k : Nat} (ha : FrB j a) (hb : FrB k b) (pa : 0 < a.2) (pb : 0 < b.2) : FrB (j + k) (mulF a b) := mkF_b (Int.mul_pos pa pb) (wide_lt ha.1 hb.1) (wide_lt ha.2 hb.2)
theorem addF_ok {a b : Fr} (pa : 0 < a.2) (pb : 0 < b.2) : FrOk (addF a b) := mkF_ok (Int.mul_pos pa pb)
theorem mulF_ok {a b : Fr} (pa : 0 < a.2) (pb : 0 < b.2) : FrOk (mulF a b) := mkF_ok (Int.mul_pos pa pb)
theorem FrOk.pos {q : Fr} (h : FrOk q) : 0 < q.2 := h.1
/-! ### promises -/
def spGcd0 : Sp := fun vs H Q _ => ∃ a b : Int, vs = [.int a, .int b] ∧ 0 ≤ b ∧ Q (.int (Int.gcd a b : Int)) H
/-- a new pair -/
def newF (H : Hp) (Q : VK) (q : Fr) : Prop := ∀ p, H p = none → Q (.ref p) (upd H p (.tup [.int q.1, .int q.2]))
def spMade : Sp := fun vs H Q _ => ∃ n d : Int, vs = [.int n, .int d] ∧ 0 < d ∧ d.natAbs < 2 ^ 8000 ∧ newF H Q (mkF n d)
def spTwoF (f : Fr → Fr → Fr) : Sp := fun vs H Q _ => ∃ (va vb : V) (a b : Fr), vs = [va, vb] ∧ Dt H va (dFr a) ∧ Dt H vb (dFr b) ∧ 0 < a.2 ∧ 0 < b.2 ∧ FrB 4000 a ∧ FrB 4000 b ∧ newF H Q (f a b)
def spSum : Sp := fun vs H Q _ => ∃ (a : Addr) (xs : List V) (qs : List Fr), vs = [.ref a] ∧ H a = some (.lst xs) ∧ flatO (.lst xs) = true ∧ DtL H xs (qs.map dFr) ∧ qs.length ≤ 12 ∧ (∀ q ∈ qs, FrOk q ∧ FrB 130 q) ∧ ∀ v H' r, Same H H' → Dt H' v (dFr r) → FrOk r → Q v H'
/-- a pool -/
def Pl (H : Hp) (q : Addr) : Prop := ∃ i j : Int, H q = some (.lst [.int i, .int j]) ∧ 0 ≤ i ∧ 0 ≤ j ∧ j < 2 ^ 62
theorem Pl.flat {H : Hp} {q : Addr} (h : Pl H q) : ∀ o, H q = some o → flatO o = false := by
  obtain ⟨i, j, e, _⟩ := h
  intro o z
  rw [e] at z
  cases z
  rfl
theorem Pl.mid {H : Hp} {q : Addr} (h : Pl H q) : ∀ o, H q = some o → midO o = false := by
  obtain ⟨i, j, e, _⟩ := h
  intro o z
  rw [e] at z
  cases z
  rfl
theorem Pl.full {H : Hp} {q : Addr} (h : Pl H q) : ∀ o, H q = some o → fullO o = false := by
  obtain ⟨i, j, e, _⟩ := h
  intro o z
  rw [e] at z
  cases z
  rfl
theorem Pl.up {H H' : Hp} {q : Addr} (h : Pl H q) (s : Same H H') : Pl H' q := by
  obtain ⟨i, j, e, z⟩ := h
  exact ⟨i, j, s _ _ e, z⟩
theorem Pl.some {H : Hp} {q : Addr} (h : Pl H q) : H q ≠ none := by
  obtain ⟨i, j, e, z⟩ := h
  rw [e]
  exact fun z => by cases z
def spPool (K : PySem.W.Frag) : Sp := fun vs H Q _ => ∃ (a : Addr) (ns : List Int) (k : Int), vs = [.ref a, .int k] ∧ SqL K H a (ns.map V.int) ∧ ns.length ≤ 63 ∧ 0 ≤ k ∧ k ≤ 63 ∧ ∀ p H', Same H H' → H p = none → Pl H' p → Q (.ref p) H'
def spDraw : Sp := fun vs H Q _ => ∃ (q : Addr) (m : Int), vs = [.ref q, .int m] ∧ Pl H q ∧ 1 ≤ m ∧ m ≤ 10 ^ 18 ∧ ∀ r H', 0 ≤ r → r < m → But q H H' → Pl H' q → Q (.int r) H'
/-- a drawn fraction -/
def spNum (ok : Fr → Prop) : Sp := fun vs H Q _ => ∃ q : Addr, vs = [.ref q] ∧ Pl H q ∧ ∀ v r H', But q H H' → Pl H' q → Dt H' v (dFr r) → ok r → FrB 62 r → Q v H'
section
variable {P : Program} {w : World} {K : PySem.W.Frag} {mg : Str → Option Value} {base : Heap}
theorem cal_gcd (T : TX P K mg) : Cal P w K mg base CX0 1 "_law_gcd" spGcd0 := T.g_law_gcd.cal (ps := ["_law_a", "_law_b"]) (fun f fd F => by
  refine F.ok c_law_gcd (fun vs H Q E h => ?_) (fun cdv A outer s H vs Q E hr h => ?_)
  · obtain ⟨a, b, rfl, _⟩ := h
    rfl
  · obtain ⟨a, b, rfl, hb0, k⟩ := h
    refine ⟨_, pss_cons (ps_while PassesOwn.never (pt_cmpR op_ne (pv 1) pe_int (nomark _)) (pss_one (ps_par (i := 0) (j := 1) (by rfl) c_law_gcd.nd rfl rfl (by decide) rfl rfl (pa_cons (pv 1) (pa_cons (pe_op op_modN (pv 0) (pv 1)) pa_nil)) (by rfl))))
      (pss_one (ps_ret (pe_callB call_abs (by rfl) T.f_abs boot_abs (pa_cons (pv 0) pa_nil)))), ?_⟩
    refine while_by (fun σ H2 => ∃ x y : Int, σ = [some (.int x), some (.int y)] ∧ H2 = H ∧ 0 ≤ y ∧ Int.gcd x y = Int.gcd a b) (fun σ _ => match σ with | [_, some (.int y)] => y.natAbs | _ => 0) ?_ ?_ ?_
    · exact ⟨_, _, rfl, rfl, hb0, rfl⟩
    · rintro σ H2 ⟨x, y, rfl, rfl, hy, hg⟩
      refine ⟨_, rfl, rfl, _, rfl, ?_⟩
      by_cases hc : y = 0
      · subst hc
        refine iteNS rfl ?_
        refine ⟨_, rfl, _, rfl, ?_⟩
        have e2 : (if x < 0 then -x else x) = ((Int.gcd a b : Nat) : Int) := by
          rw [← hg, Int.gcd_zero_right]
          split <;> omega
        rw [e2]
        exact k
      · have e : (!decide (V.int y = V.int 0)) = true := by
          rw [decide_eq_false (fun z => hc (by injection z))]
          rfl
        show if (!decide (V.int y = V.int 0)) = true then _ else _
        rw [e]
        refine iteT ?_
        refine ⟨_, rfl, _, rfl, _, rfl, _, _, rfl, rfl, hc, _, _, rfl, ?_⟩
        have hpos : 0 < y := by omega
        have h1 := Int.fmod_nonneg_of_pos x hpos
        have h2 := Int.fmod_lt_of_pos x hpos
        refine ⟨⟨_, _, rfl, rfl, h1, by rw [gcd_step x y hc, hg]⟩, ?_⟩
        show (x.fmod y).natAbs < y.natAbs
        omega
    · rintro σ H2 Q Q' hq ⟨v, e1, i, b2, e4, z⟩
      exact ⟨v, e1, i, b2, e4, hq _ _ z⟩) (fun _ _ _ _ _ _ us hl => match us, hl with | [_, _], _ => rfl)
theorem cal_made (T : TX P K mg) : Cal P w K mg base CX0 2 "_law_made" spMade := T.g_law_made.cal (ps := ["_law_numerator", "_law_denominator"]) (fun f fd F => by
  refine F.ok c_law_made (fun vs H Q E h => ?_) (fun cdv A outer s H vs Q E hr h => ?_)
  · obtain ⟨a, b, rfl, _⟩ := h
    rfl
  · obtain ⟨n, d, rfl, hd, hb, k⟩ := h
    refine ⟨_, pss_cons (ps_set (i := 2) c_law_made.nd rfl (Or.inl rfl) (pe_op op_mul (pe_cal (cal_gcd T) hr pass0 (pa_cons (pv 0) (pa_cons (pv 1) pa_nil))) (pe_ifExp (pt_cmpR op_gt (pv 1) pe_int (nomark _)) pe_int (pe_un un_neg pe_int))))
      (pss_one (ps_ret (pe_tup (pa_cons (pe_op op_fdivW (pv 0) (pv 2)) (pa_cons (pe_op op_fdivW (pv 1) (pv 2)) pa_nil))))), ?_⟩
    refine ⟨_, rfl, _, rfl, _, _, rfl, Int.le_of_lt hd, ?_⟩
    refine ⟨_, rfl, _, _, rfl, rfl, _, rfl, ?_⟩
    rw [decide_eq_true (show d > 0 from hd)]
    refine iteT ?_
    refine ⟨_, _, rfl, rfl, .inr ⟨by decide, by decide⟩, ?_⟩
    have hg := gcd_pos (n := n) hd
    have e : ((Int.gcd n d : Int) * 1) = (Int.gcd n d : Int) := Int.mul_one _
    have hw : CDivW n ((Int.gcd n d : Int) * 1) := by
      rw [e]
      have h1 : (Int.gcd n d : Int) ≤ d := Int.le_of_dvd hd (Int.gcd_dvd_right _ _)
      exact wide_div hg (b := 8000) (by omega) (by decide) (by decide)
    refine ⟨_, rfl, _, rfl, _, _, rfl, rfl, hw, _, rfl, _, rfl, _, _, rfl, rfl, hw, by show 2 ≤ sizeLine; decide, fun p hp => ?_⟩
    have := k p hp
    unfold mkF at this
    rw [e]
    exact this) (fun _ _ _ _ _ _ us hl => match us, hl with | [_, _], _ => rfl)
theorem b8 {q1 q2 : Int} {k : Nat} (h1 : q1.natAbs < 2 ^ 4000) (h2 : q2.natAbs < 2 ^ 4000) : (q1 * q2).natAbs < 2 ^ 8000 := wide_lt h1 h2
theorem cal_add (T : TX P K mg) : Cal P w K mg base CX0 3 "_law_add" (spTwoF addF) := T.g_law_add.cal (ps := ["_law_a", "_law_b"]) (fun f fd F => by
  refine F.ok c_law_add (fun vs H Q E h => ?_) (fun cdv A outer s H vs Q E hr h => ?_)
  · obtain ⟨va, vb, a, b, rfl, _⟩ := h
    rfl
  · obtain ⟨va, vb, a, b, rfl, da, db, pa, pb, ba, bb, k⟩ := h
    obtain ⟨aa, rfl, ha⟩ := dFr_inv da
    obtain ⟨ab, rfl, hb⟩ := dFr_inv db
    refine ⟨_, pss_one (ps_ret (pe_cal (cal_made T) hr pass0 (pa_cons (pe_op op_add (pe_op op_mulW (pe_ix ix_tup (pv 0) pe_int (fun _ _ => rfl)) (pe_ix ix_tup (pv 1) pe_int (fun _ _ => rfl))) (pe_op op_mulW (pe_ix ix_tup (pv 1) pe_int (fun _ _ => rfl)) (pe_ix ix_tup (pv 0) pe_int (fun _ _ => rfl))))
      (pa_cons (pe_op op_mulW (pe_ix ix_tup (pv 0) pe_int (fun _ _ => rfl)) (pe_ix ix_tup (pv 1) pe_int (fun _ _ => rfl))) pa_nil)))), ?_⟩
    refine ⟨_, rfl, _, _, _, _, rfl, rfl, SqT.of ha, rfl, _, rfl, _, _, _, _, rfl, rfl, SqT.of hb, rfl, _, _, rfl, rfl, wide_mul ba.1 bb.2 (by decide) (by decide) (by decide), ?_⟩
    refine ⟨_, rfl, _, _, _, _, rfl, rfl, SqT.of hb, rfl, _, rfl, _, _, _, _, rfl, rfl, SqT.of ha, rfl, _, _, rfl, rfl, wide_mul bb.1 ba.2 (by decide) (by decide) (by decide), _, _, rfl, rfl, ?_⟩
    refine ⟨_, rfl, _, _, _, _, rfl, rfl, SqT.of ha, rfl, _, rfl, _, _, _, _, rfl, rfl, SqT.of hb, rfl, _, _, rfl, rfl, wide_mul ba.2 bb.2 (by decide) (by decide) (by decide), ?_⟩
    exact ⟨_, _, rfl, Int.mul_pos pa pb, b8 (k := 0) ba.2 bb.2, k⟩) (fun _ _ _ _ _ _ us hl => match us, hl with | [_, _], _ => rfl)
theorem cal_mul (T : TX P K mg) : Cal P w K mg base CX0 3 "_law_mul" (spTwoF mulF) := T.g_law_mul.cal (ps := ["_law_a", "_law_b"]) (fun f fd F => by
  refine F.ok c_law_mul (fun vs H Q E h => ?_) (fun cdv A outer s H vs Q E hr h => ?_)
  · obtain ⟨va, vb, a, b, rfl, _⟩ := h
    rfl
  · obtain ⟨va, vb, a, b, rfl, da, db, pa, pb, ba, bb, k⟩ := h
    obtain ⟨aa, rfl, ha⟩ := dFr_inv da
    obtain ⟨ab, rfl, hb⟩ := dFr_inv db
    refine ⟨_, pss_one (ps_ret (pe_cal (cal_made T) hr pass0 (pa_cons (pe_op op_mulW (pe_ix ix_tup (pv 0) pe_int (fun _ _ => rfl)) (pe_ix ix_tup (pv 1) pe_int (fun _ _ => rfl)))
      (pa_cons (pe_op op_mulW (pe_ix ix_tup (pv 0) pe_int (fun _ _ => rfl)) (pe_ix ix_tup (pv 1) pe_int (fun _ _ => rfl))) pa_nil)))), ?_⟩
    refine ⟨_, rfl, _, _, _, _, rfl, rfl, SqT.of ha, rfl, _, rfl, _, _, _, _, rfl, rfl, SqT.of hb, rfl, _, _, rfl, rfl, wide_mul ba.1 bb.1 (by decide) (by decide) (by decide), ?_⟩
    refine ⟨_, rfl, _, _, _, _, rfl, rfl, SqT.of ha, rfl, _, rfl, _, _, _, _, rfl, rfl, SqT.of hb, rfl, _, _, rfl, rfl, wide_mul ba.2 bb.2 (by decide) (by decide) (by decide), ?_⟩
    exact ⟨_, _, rfl, Int.mul_pos pa pb, b8 (k := 0) ba.2 bb.2, k⟩) (fun _ _ _ _ _ _ us hl => match us, hl with | [_, _], _ => rfl)
theorem cal_sum (T : TX P K mg) : Cal P w K mg base CX0 4 "_law_sum" spSum := T.g_law_sum.cal (ps := ["_law_numbers"]) (fun f fd F => by
  refine F.ok c_law_sum (fun vs H Q E h => ?_) (fun cdv A outer s H vs Q E hr h => ?_)
  · obtain ⟨a, xs, qs, rfl, _⟩ := h
    rfl
  · obtain ⟨a, xs, qs, rfl, ha, hfl, hx, hn, hq, k⟩ := h
    refine ⟨_, pss_cons (ps_set (i := 1) c_law_sum.nd rfl (Or.inl rfl) (pe_tup (pa_cons pe_int (pa_cons pe_int pa_nil))))
      (pss_cons (ps_for PassesOwn.never rfl (pi_list (pv 0)) (pg_name (i := 2) c_law_sum.nd rfl (Or.inl rfl))
        (pss_one (ps_set (i := 1) c_law_sum.nd rfl (Or.inl rfl) (pe_cal (cal_add T) hr pass0 (pa_cons (pv 1) (pa_cons (pv 2) pa_nil))))))
      (pss_one (ps_ret (pv 1)))), ?_⟩
    refine ⟨by show 2 ≤ sizeLine; decide, fun p hp => ?_⟩
    have s0 : Same H (upd H p (.tup [.int 0, .int 1])) := same1 hp _
    refine ⟨_, rfl, a, rfl, ⟨_, SqL.of (s0 _ _ ha)⟩, for_list (K := K) (a := a) (xs := xs) (fun i σ H2 => ∃ (v : V) (r : Fr) (z : Option V), σ = [some (.ref a), some v, z] ∧ Same H H2 ∧ Dt H2 v (dFr r) ∧ FrOk r ∧ FrB (131 * (i + 1)) r) ?_ ?_ ?_ ?_⟩
    · exact ⟨_, (0, 1), none, rfl, s0, dFr_mk (q := (0, 1)) upd_same, ⟨by decide, by decide⟩, by decide, by decide⟩
    · rintro i σ H2 _ ⟨v, r, z, rfl, s, _⟩
      exact SqL.of (s _ _ ha)
    · rintro i y σ H2 hi ⟨v, r, z, rfl, s, dv, ok, bd⟩
      obtain ⟨d, ed, dd⟩ := hx.getV hi
      rw [List.getElem?_map] at ed
      obtain ⟨q, eq, rfl⟩ := Option.map_eq_some_iff.mp ed
      have hi2 : i < qs.length := (List.getElem?_eq_some_iff.mp eq).1
      obtain ⟨okq, bq⟩ := hq q (List.mem_of_getElem? eq)
      refine ⟨_, rfl, _, rfl, _, _, r, q, rfl, dv, dd.up s, ok.pos, okq.pos, bd.mono (by omega), bq.mono (by decide), fun p2 hp2 => ?_⟩
      refine ⟨_, addF r q, _, rfl, same_new s hp2 _, dFr_mk (q := addF r q) upd_same, addF_ok ok.pos okq.pos, (addF_b bd bq ok.pos okq.pos).mono (by omega)⟩
    · rintro σ H2 ⟨v, r, z, rfl, s, dv, ok, bd⟩
      exact ⟨_, rfl, k v H2 r s dv ok⟩) (fun _ _ _ _ _ _ us hl => match us, hl with | [_], _ => rfl)
end
end K7

set_option Elab.async false
set_option linter.all false
set_option maxRecDepth 100000
set_option maxHeartbeats 2000000
/-! The law's pools and draws. -/
namespace K7
open PySem PySem.Spec PyProof.Rows L2
theorem cut_ints (ns : List Int) (lo hi : Option Int) : ∃ ms : List Int, cutV (ns.map V.int) lo hi = ms.map V.int := by
  refine ⟨(ns.drop (HT.sIx (ns.map V.int).length 0 lo)).take (HT.sIx (ns.map V.int).length (ns.map V.int).length hi - HT.sIx (ns.map V.int).length 0 lo), ?_⟩
  unfold cutV
  rw [← List.map_drop, ← List.map_take]
section
variable {P : Program} {w : World} {K : PySem.W.Frag} {mg : Str → Option Value} {base : Heap}
theorem cal_draw (T : TX P K mg) : Cal P w K mg base CX0 1 "_law_draw" spDraw := T.g_law_draw.cal (ps := ["_law_pool_here", "_law_many"]) (fun f fd F => by
  refine F.ok c_law_draw (fun vs H Q E h => ?_) (fun cdv A outer s H vs Q E hr h => ?_)
  · obtain ⟨q, m, rfl, _⟩ := h
    rfl
  · obtain ⟨q, m, rfl, ⟨i, j, hq, hi, hj, hj2⟩, hm, hm2, k⟩ := h
    refine ⟨_, pss_cons (ps_if (pt_cmpR op_gt (pe_ix ix_list (pv 0) pe_int (fun _ _ => rfl)) pe_int (nomark _))
        (pss_cons (ps_set (i := 2) c_law_draw.nd rfl (Or.inl rfl) (pe_op op_mod (pe_ix ix_list (pv 0) pe_int (fun _ _ => rfl)) (pv 1)))
        (pss_cons (ps_asg (pe_op op_fdivW (pe_ix ix_list (pv 0) pe_int (fun _ _ => rfl)) (pv 1)) (pg_sub (pv 0) pe_int set_list))
        (pss_one (ps_ret (pv 2))))) pss_nil)
      (pss_cons (ps_asg (pe_op op_mod (pe_op op_add (pe_op op_mul (pe_ix ix_list (pv 0) pe_int (fun _ _ => rfl)) pe_int) pe_int) pe_int) (pg_sub (pv 0) pe_int set_list))
      (pss_one (ps_ret (pe_op op_mod (pe_op op_fdiv (pe_op op_mod (pe_op op_mul (pe_ix ix_list (pv 0) pe_int (fun _ _ => rfl)) (pe_ix ix_list (pv 0) pe_int (fun _ _ => rfl))) pe_int) pe_int) (pv 1))))), ?_⟩
    refine ⟨_, rfl, _, _, _, _, rfl, rfl, SqL.of hq, rfl, _, _, rfl, rfl, _, rfl, ite2 (fun hc => ?_) (fun hc => ?_)⟩
    · have hi0 : 0 < i := of_decide_eq_true hc
      refine ⟨_, rfl, _, _, _, _, rfl, rfl, SqL.of hq, rfl, _, rfl, _, _, rfl, rfl, (by show (0 : Int) < m; omega), ?_⟩
      refine ⟨_, rfl, _, _, _, _, rfl, rfl, SqL.of hq, rfl, _, rfl, _, _, rfl, rfl, wide_div (b := 64) (by omega) (by omega) (by decide) (by decide), _, rfl, _, _, _, _, rfl, rfl, hq, rfl, ?_⟩
      refine ⟨_, rfl, ?_⟩
      refine k _ _ (Int.emod_nonneg _ (by omega)) (Int.emod_lt_of_pos _ (by omega)) ((But.refl q H).put _) ⟨_, _, upd_same, Int.ediv_nonneg hi (by omega), hj, hj2⟩
    · refine ⟨_, rfl, _, _, _, _, rfl, rfl, SqL.of hq, rfl, _, _, rfl, rfl, .inr ⟨by decide, by decide⟩, _, _, rfl, rfl, _, _, rfl, rfl, (by show (0 : Int) < 2147483647; decide), ?_⟩
      refine ⟨_, rfl, _, _, _, _, rfl, rfl, hq, rfl, ?_⟩
      have h1 := Int.emod_nonneg (j * 48271 + 11) (b := 2147483647) (by decide)
      have h2 := Int.emod_lt_of_pos (j * 48271 + 11) (b := 2147483647) (by decide)
      refine ⟨_, rfl, _, _, _, _, rfl, rfl, SqL.of upd_same, rfl, _, rfl, _, _, _, _, rfl, rfl, SqL.of upd_same, rfl, _, _, rfl, rfl, .inl ⟨by omega, by omega⟩, _, _, rfl, rfl, (by show (0 : Int) < 2147483629; decide), _, _, rfl, rfl, ⟨by decide, by decide⟩, _, rfl, _, _, rfl, rfl, (by show (0 : Int) < m; omega), ?_⟩
      exact k _ _ (Int.emod_nonneg _ (by omega)) (Int.emod_lt_of_pos _ (by omega)) ((But.refl q H).put _) ⟨_, _, upd_same, hi, h1, by omega⟩) (fun _ _ _ _ _ _ us hl => match us, hl with | [_, _], _ => rfl)
theorem cal_number (T : TX P K mg) : Cal P w K mg base CX0 3 "_law_number" (spNum LdOk) := T.g_law_number.cal (ps := ["_law_pool_here"]) (fun f fd F => by
  refine F.ok c_law_number (fun vs H Q E h => ?_) (fun cdv A outer s H vs Q E hr h => ?_)
  · obtain ⟨q, rfl, _⟩ := h
    rfl
  · obtain ⟨q, rfl, hq, k⟩ := h
    have hr1 : Room 1 _ := hr.mono (by decide)
    have D := cal_draw (P := P) (w := w) (base := base) T
    refine ⟨_, pss_cons (ps_set (i := 1) c_law_number.nd rfl (Or.inl rfl) (pe_cal D hr1 pass0 (pa_cons (pv 0) (pa_cons pe_int pa_nil))))
      (pss_cons (ps_if (pt_cmpR op_eq (pv 1) pe_int (nomark _)) (pss_one (ps_ret (pe_tup (pa_cons pe_int (pa_cons pe_int pa_nil))))) pss_nil)
      (pss_cons (ps_if (pt_cmpR op_eq (pv 1) pe_int (nomark _)) (pss_one (ps_ret (pe_cal (cal_made T) hr pass0
          (pa_cons (pe_cal D hr1 pass0 (pa_cons (pv 0) (pa_cons (pe_op op_pow pe_int pe_int) pa_nil))) (pa_cons (pe_op op_add pe_int (pe_cal D hr1 pass0 (pa_cons (pv 0) (pa_cons pe_int pa_nil)))) pa_nil))))) pss_nil)
      (pss_one (ps_ret (pe_cal (cal_made T) hr pass0
          (pa_cons (pe_cal D hr1 pass0 (pa_cons (pv 0) (pa_cons pe_int pa_nil))) (pa_cons (pe_op op_add pe_int (pe_cal D hr1 pass0 (pa_cons (pv 0) (pa_cons pe_int pa_nil)))) pa_nil))))))), ?_⟩
    refine ⟨_, rfl, _, _, rfl, hq, by decide, by decide, fun r1 H1 a1 b1 t1 p1 => ?_⟩
    refine ⟨_, rfl, rfl, _, rfl, ite2 (fun _ => ?_) (fun _ => ?_)⟩
    · refine ⟨by show 2 ≤ sizeLine; decide, fun p hp => ?_⟩
      have np : q ≠ p := fun z => by subst z; exact p1.some hp
      refine k _ (0, 1) _ (t1.new hp _) ?_ (dFr_mk (q := (0, 1)) upd_same) ⟨⟨by decide, by decide⟩, by decide⟩ ⟨by decide, by decide⟩
      exact p1.up (same1 hp _)
    · have fin : ∀ (m : Int) (H3 : Hp), 1 ≤ m → m ≤ 12 → But q H H3 → Pl H3 q → ∀ n : Int, 0 ≤ n → n < 10 ^ 18 → newF H3 Q (mkF n m) := fun m H3 m1 m2 t3 p3 n n1 n2 p hp => by
        have hm : 0 < m := by omega
        exact k _ (mkF n m) _ (t3.new hp _) (p3.up (same1 hp _)) (dFr_mk (q := mkF n m) upd_same) ⟨mkF_ok hm, mkF_nn hm n1⟩ (mkF_b hm (by omega) (by omega))
      refine ⟨_, rfl, rfl, _, rfl, ite2 (fun _ => ?_) (fun _ => ?_)⟩
      · refine ⟨_, rfl, _, _, rfl, rfl, ⟨by decide, by decide, by decide⟩, _, _, rfl, p1, by decide, by decide, fun r2 H2 a2 b2 t2 p2 => ?_⟩
        refine ⟨_, rfl, _, _, rfl, p2, by decide, by decide, fun r3 H3 a3 b3 t3 p3 => ?_⟩
        exact ⟨_, _, rfl, rfl, _, _, rfl, by omega, by omega, fin _ _ (by omega) (by omega) ((t1.trans t2).trans t3) p3 r2 a2 (by simpa using b2)⟩
      · refine ⟨_, rfl, _, _, rfl, p1, by decide, by decide, fun r2 H2 a2 b2 t2 p2 => ?_⟩
        refine ⟨_, rfl, _, _, rfl, p2, by decide, by decide, fun r3 H3 a3 b3 t3 p3 => ?_⟩
        exact ⟨_, _, rfl, rfl, _, _, rfl, by omega, by omega, fin _ _ (by omega) (by omega) ((t1.trans t2).trans t3) p3 r2 a2 (by omega)⟩) (fun _ _ _ _ _ _ us hl => match us, hl with | [_], _ => rfl)
theorem cal_signed (T : TX P K mg) : Cal P w K mg base CX0 4 "_law_signed" (spNum FrOk) := T.g_law_signed.cal (ps := ["_law_pool_here"]) (fun f fd F => by
  refine F.ok c_law_signed (fun vs H Q E h => ?_) (fun cdv A outer s H vs Q E hr h => ?_)
  · obtain ⟨q, rfl, _⟩ := h
    rfl
  · obtain ⟨q, rfl, hq, k⟩ := h
    have hr1 : Room 1 _ := hr.mono (by decide)
    refine ⟨_, pss_cons (ps_set (i := 1) c_law_signed.nd rfl (Or.inl rfl) (pe_cal (cal_number T) hr pass0 (pa_cons (pv 0) pa_nil)))
      (pss_one (ps_ret (pe_ifExp (pt_cmpR op_eq (pe_cal (cal_draw T) hr1 pass0 (pa_cons (pv 0) (pa_cons pe_int pa_nil))) pe_int (nomark _))
        (pe_tup (pa_cons (pe_un un_neg (pe_ix ix_tup (pv 1) pe_int (fun _ _ => rfl))) (pa_cons (pe_ix ix_tup (pv 1) pe_int (fun _ _ => rfl)) pa_nil))) (pv 1)))), ?_⟩
    refine ⟨_, rfl, _, rfl, hq, fun v r H1 t1 p1 d1 o1 b1 => ?_⟩
    refine ⟨_, rfl, _, _, rfl, p1, by decide, by decide, fun r2 H2 a2 bb2 t2 p2 => ?_⟩
    have d2 := d1.mv (kd_but t2 p1.flat)
    obtain ⟨a, rfl, ha⟩ := dFr_inv d2
    refine ⟨rfl, _, rfl, ite2 (fun _ => ?_) (fun _ => ?_)⟩
    · refine ⟨_, rfl, _, _, _, _, rfl, rfl, SqT.of ha, rfl, _, rfl, _, rfl, _, _, _, _, rfl, rfl, SqT.of ha, rfl, by show 2 ≤ sizeLine; decide, fun p hp => ?_⟩
      refine k _ (-r.1, r.2) _ ((t1.trans t2).new hp _) (p2.up (same1 hp _)) (dFr_mk (q := (-r.1, r.2)) upd_same) ⟨o1.1.1, ?_⟩ ⟨?_, b1.2⟩
      · show Int.gcd (-r.1) r.2 = 1
        rw [Int.neg_gcd]
        exact o1.1.2
      · show (-r.1).natAbs < _
        rw [Int.natAbs_neg]
        exact b1.1
    · exact ⟨_, rfl, k _ r _ (t1.trans t2) p2 d2 o1.1 b1⟩) (fun _ _ _ _ _ _ us hl => match us, hl with | [_], _ => rfl)
end
end K7

set_option Elab.async false
set_option linter.all false
set_option maxRecDepth 100000
set_option maxHeartbeats 2000000
/-! The law's pool of a cell; paths. -/
namespace K7
open PySem PySem.Spec PyProof.Rows L2
theorem atI_int {ns : List Int} {k : Nat} (h : k < ns.length) : atI (ns.map V.int) (k : Int) = some (.int ns[k]) := atI_nat (by simp [h])
theorem strs_at {ns : List Str} {k : Nat} (h : k < ns.length) : atI (ns.map V.str) (k : Int) = some (.str ns[k]) := atI_nat (by simp [h])
theorem strs_atI {ns : List Str} {k : Int} (h0 : 0 ≤ k) (h : k < ns.length) : ∃ n, n ∈ ns ∧ atI (ns.map V.str) k = some (.str n) := by
  obtain ⟨j, rfl⟩ := Int.eq_ofNat_of_zero_le h0
  have hj : j < ns.length := by omega
  exact ⟨ns[j], List.getElem_mem hj, strs_at hj⟩
/-- a path of the law -/
inductive Pth (ns : List Str) : List Str → Prop
  | one {p : Str} (h : p ∈ ns) : Pth ns [p]
  | step {ws : List Str} {d p : Str} (t : Pth ns ws) (hd : d = "up" ∨ d = "down") (h : p ∈ ns) : Pth ns (ws ++ [d, p])
theorem Pth.last {ns ws : List Str} (h : Pth ns ws) : ∃ us p, ws = us ++ [p] ∧ p ∈ ns := by
  cases h with
  | one h => exact ⟨[], _, rfl, h⟩
  | @step ws d p t hd h => exact ⟨ws ++ [d], p, by simp, h⟩
def spPath : Sp := fun vs H Q _ => ∃ (q a : Addr) (ns : List Str), vs = [.ref q, .ref a] ∧ Pl H q ∧ H a = some (.lst (ns.map V.str)) ∧ 1 ≤ ns.length ∧ ns.length ≤ 20 ∧ (∀ n ∈ ns, n.length ≤ 8) ∧
  ∀ p ws H', But q H H' → Pl H' q → H' p = some (.tup (ws.map V.str)) → Pth ns ws → 3 ≤ ws.length → ws.length ≤ 9 → Q (.ref p) H'
def spCoef : Sp := fun vs H Q _ => ∃ (a : Addr) (ws : List Str) (n : Str), vs = [.ref a, .str n] ∧ H a = some (.tup (ws.map V.str)) ∧ 3 ≤ ws.length ∧ ws.length ≤ 9 ∧ ∀ c : Int, c.natAbs ≤ 9 → Q (.int c) H
theorem rg2 : ∀ L : Nat, L < 12 → 3 ≤ L → RgC 0 ((L : Int) - 2) 2 ((L - 1) / 2) := by
  unfold RgC
  decide +kernel
/-! ### a statement, then the rest: what follows shown once -/
def tCut (t u : TS) : TS := fun D σ H => ∃ Mid : L2.St → Hp → Prop, t { D with nx := Mid } σ H ∧ ∀ σ' H', Mid σ' H' → u D σ' H'
theorem pss_cut {X : Cx} {st : Stmt} {rest : List Stmt} {t u : TS} (h1 : PS X st t) (h2 : PSs X rest u) : PSs X (st :: rest) (tCut t u) := by
  refine ⟨fun pins s σ H D I h => ?_⟩
  obtain ⟨Mid, hm, hu⟩ := h
  refine wpAny_execs_cons (thn (h1.run pins s σ H { D with nx := Mid } I hm) fun f s1 q => ?_)
  cases f with
  | next =>
    obtain ⟨σ', H', I', q⟩ := q
    exact h2.run pins s1 σ' H' D I' (hu σ' H' q)
  | ret v => exact q
  | brk => exact q
  | cont => exact q
section
variable {P : Program} {w : World} {K : PySem.W.Frag} {mg : Str → Option Value} {base : Heap}
theorem cal_pool (T : TX P K mg) : Cal P w K mg base CX0 1 "_law_pool" (spPool K) := T.g_law_pool.cal (ps := ["_law_script", "_law_k"]) (fun f fd F => by
  refine F.ok c_law_pool (fun vs H Q E h => ?_) (fun cdv A outer s H vs Q E hr h => ?_)
  · obtain ⟨a, ns, k, rfl, _⟩ := h
    rfl
  · obtain ⟨a, ns, k, rfl, hS, hl, hk0, hk, kk⟩ := h
    obtain ⟨k, rfl⟩ := Int.eq_ofNat_of_zero_le hk0
    refine ⟨_, pss_cons (ps_set (i := 2) c_law_pool.nd rfl (Or.inl rfl) (pe_op op_add (pe_op op_mul pe_int (pe_callB (cr_sum rfl) (by rfl) T.f_sum (by decide +kernel) (pa_cons (pe_slice sl_list (pv 0) po_none (po_some pe_int)) pa_nil))) (pv 1)))
      (pss_cut (ps_if (pt_cmpR op_lt (pv 1) (pe_callB call_len_seq (by rfl) T.f_len PySem.boot_len (pa_cons (pv 0) pa_nil)) (nomark _)) (pss_one (ps_set (i := 2) c_law_pool.nd rfl (Or.inl rfl) (pe_ix ix_list (pv 0) (pv 1) (fun _ _ => rfl)))) pss_nil)
      (pss_cons (ps_set (i := 3) c_law_pool.nd rfl (Or.inl rfl) (pe_callB call_abs (by rfl) T.f_abs boot_abs (pa_cons (pv 2) pa_nil)))
      (pss_cut (ps_set (i := 4) c_law_pool.nd rfl (Or.inl rfl) (pe_op op_mod (pe_op op_mul (pe_op op_add (pe_op op_add (pe_op op_add (pe_op op_mod (pv 3) pe_int) (pe_op op_mul (pe_op op_mul pe_int (pv 1)) (pv 1))) (pe_op op_mul pe_int (pv 1))) pe_int) pe_int) pe_int))
      (pss_one (ps_ret (pe_lst (pa_cons (pe_op op_mul (pv 3) (pe_callTy call_int1 (by rfl) T.f_int (by decide +kernel) (pa_cons (pe_cmpR op_ge (pv 3) (pe_op op_pow pe_int pe_int) (nomark _)) pa_nil))) (pa_cons (pe_op op_mod (pe_op op_mul (pv 4) (pv 4)) pe_int) pa_nil)))))))), ?_⟩
    refine ⟨_, rfl, _, rfl, a, _, rfl, hS, fun p hp => ?_⟩
    obtain ⟨ms, em⟩ := cut_ints ns none (some 63)
    have s1 := same1 hp (.lst (cutV (ns.map V.int) none (some 63)))
    refine ⟨p, ms, rfl, SqL.of (by rw [em]; exact upd_same), _, _, rfl, rfl, .inl ⟨by decide, by decide⟩, _, rfl, _, _, rfl, rfl, ?_⟩
    refine ⟨fun σ H2 => ∃ c : Int, σ = [some (.ref a), some (.int (k : Int)), some (.int c), none, none] ∧ H2 = upd H p (.lst (cutV (ns.map V.int) none (some 63))), ?_, ?_⟩
    · refine ⟨_, rfl, _, rfl, a, _, rfl, .inl (s1.seq hS), _, _, rfl, rfl, _, rfl, ite2 (fun hc => ?_) (fun hc => ?_)⟩
      · have h1 : (k : Int) < ((ns.map V.int).length : Int) := of_decide_eq_true hc
        rw [List.length_map] at h1
        exact ⟨_, rfl, _, rfl, a, _, _, _, rfl, rfl, s1.seq hS, atI_int (by omega), _, rfl, rfl⟩
      · exact ⟨_, rfl, rfl⟩
    · rintro σ H2 ⟨c, rfl, rfl⟩
      refine ⟨_, rfl, _, rfl, ?_⟩
      have hg : (0 : Int) ≤ if c < 0 then -c else c := by split <;> omega
      generalize (if c < 0 then -c else c) = g at hg
      refine ⟨fun σ H2 => ∃ m : Int, σ = [some (.ref a), some (.int (k : Int)), some (.int c), some (.int g), some (.int m)] ∧ H2 = upd H p (.lst (cutV (ns.map V.int) none (some 63))) ∧ 0 ≤ m ∧ m < 2147483647, ?_, ?_⟩
      · exact ⟨_, rfl, _, _, rfl, rfl, (by show (0 : Int) < 2147483629; decide), _, rfl, _, _, rfl, rfl, .inl ⟨by decide, by decide⟩, _, rfl, _, _, rfl, rfl, .inr ⟨by omega, by omega⟩, _, _, rfl, rfl, _, rfl, _, _, rfl, rfl, .inl ⟨by decide, by decide⟩, _, _, rfl, rfl, _, _, rfl, rfl, _, _, rfl, rfl, .inr ⟨by decide, by decide⟩, _, _, rfl, rfl, (by show (0 : Int) < 2147483647; decide), _, rfl, rfl, Int.emod_nonneg _ (by decide), Int.emod_lt_of_pos _ (by decide)⟩
      rintro σ H2 ⟨m, rfl, rfl, m1, m2⟩
      have hb : ∀ b : Bool, -(2 ^ 64) < (if b then 1 else 0 : Int) ∧ (if b then 1 else 0 : Int) < 2 ^ 64 := by decide
      have hb0 : ∀ b : Bool, (0 : Int) ≤ (if b then 1 else 0 : Int) := by decide
      refine ⟨_, rfl, _, rfl, _, _, rfl, rfl, ⟨by decide, by decide, by decide⟩, _, _, rfl, rfl, .inr ⟨_, rfl, _, _, rfl, rfl, .inr (hb _), ?_⟩⟩
      refine ⟨_, rfl, _, rfl, _, _, rfl, rfl, .inl ⟨by omega, by omega⟩, _, _, rfl, rfl, (by show (0 : Int) < 2147483629; decide), (by show 2 ≤ sizeLine; decide), fun l hl => ?_⟩
      have k1 := Int.emod_nonneg (m * m) (b := 2147483629) (by decide)
      have k2 := Int.emod_lt_of_pos (m * m) (b := 2147483629) (by decide)
      exact kk l _ (same_new s1 hl _) (s1.free hl) ⟨_, _, upd_same, Int.mul_nonneg hg (hb0 _), k1, by omega⟩) (fun _ _ _ _ _ _ us hl => match us, hl with | [_, _], _ => rfl)
theorem cal_path (T : TX P K mg) : Cal P w K mg base CX0 2 "_law_path" spPath := T.g_law_path.cal (ps := ["_law_pool_here", "_law_points"]) (fun f fd F => by
  refine F.ok c_law_path (fun vs H Q E h => ?_) (fun cdv A outer s H vs Q E hr h => ?_)
  · obtain ⟨q, a, ns, rfl, _⟩ := h
    rfl
  · obtain ⟨q, a, ns, rfl, hq, ha, hn1, hn2, hn3, k⟩ := h
    have D := cal_draw (P := P) (w := w) (base := base) T
    have nd := c_law_path.nd
    refine ⟨_, pss_cons (ps_set (i := 2) nd rfl (Or.inl rfl) (pe_lst (pa_cons (pe_ix ix_list (pv 1) (pe_cal D hr pass0 (pa_cons (pv 0) (pa_cons (pe_callB call_len_seq (by rfl) T.f_len PySem.boot_len (pa_cons (pv 1) pa_nil)) pa_nil))) (fun _ _ => rfl)) pa_nil)))
      (pss_cons (ps_for PassesOwn.never rfl (pi_range1 rfl T.f_range (pa_cons (pe_op op_add pe_int (pe_cal D hr pass0 (pa_cons (pv 0) (pa_cons pe_int pa_nil)))) pa_nil)) (pg_name (i := 3) nd rfl (Or.inl rfl))
        (pss_cons (ps_set (i := 4) nd rfl (Or.inl rfl) (pe_ix ix_list (pv 1) (pe_cal D hr pass0 (pa_cons (pv 0) (pa_cons (pe_callB call_len_seq (by rfl) T.f_len PySem.boot_len (pa_cons (pv 1) pa_nil)) pa_nil))) (fun _ _ => rfl)))
        (pss_cons (ps_set (i := 5) nd rfl (Or.inl rfl) (pe_cmpR op_eq (pe_ix ix_list (pv 2) (pe_un un_neg pe_int) (fun _ _ => rfl)) (pe_upper (pe_ix ix_list (pv 2) (pe_un un_neg pe_int) (fun _ _ => rfl))) (nomark _)))
        (pss_cut (ps_set (i := 6) nd rfl (Or.inl rfl) (pe_ix ix_list (pe_lst (pa_cons (pe_ifExp (pt_val (pv 5)) pe_str pe_str) (pa_cons (pe_ifExp (pt_val (pv 5)) pe_str pe_str) pa_nil)))
          (pe_callTy call_int1 (by rfl) T.f_int (by decide +kernel) (pa_cons (pe_cmpR op_eq (pe_cal D hr pass0 (pa_cons (pv 0) (pa_cons pe_int pa_nil))) pe_int (nomark _)) pa_nil)) (fun _ _ => rfl)))
        (pss_one (ps_set (i := 2) nd rfl (Or.inl rfl) (pe_op op_cat (pv 2) (pe_lst (pa_cons (pv 6) (pa_cons (pv 4) pa_nil))))))))))
      (pss_one (ps_ret (pe_callTy call_tuple_of (by rfl) T.f_tuple (by decide +kernel) (pa_cons (pv 2) pa_nil))))), ?_⟩
    have mvp : ∀ {H1 H2 : Hp}, But q H1 H2 → Pl H1 q → ∀ {l : Addr} {us : List Str}, H1 l = some (.lst (us.map V.str)) → H2 l = some (.lst (us.map V.str)) := fun t p _ us e => kd_but t p.flat _ _ e (strs_flat us)
    -- the first point
    refine ⟨_, rfl, _, rfl, _, rfl, a, _, rfl, .inl (SqL.of ha), _, _, rfl, hq, by rw [List.length_map]; omega, by rw [List.length_map]; omega, fun r1 H1 a1 b1 t1 p1 => ?_⟩
    rw [List.length_map] at b1
    have ha1 := mvp t1 hq ha
    obtain ⟨n1, m1, e1⟩ := strs_atI (ns := ns) a1 (by omega)
    refine ⟨a, _, _, _, rfl, rfl, SqL.of ha1, e1, (by show 1 ≤ sizeLine; decide), fun l hl => ?_⟩
    have nl : q ≠ l := fun z => by subst z; exact p1.some hl
    have s1 := same1 hl (.lst [.str n1])
    -- the steps
    refine ⟨_, rfl, _, _, rfl, p1.up s1, by decide, by decide, fun r2 H2 a2 b2 t2 p2 => ?_⟩
    have ha2 := mvp t2 (p1.up s1) (s1 _ _ ha1)
    have hl2 := mvp t2 (p1.up s1) (l := l) (us := [n1]) upd_same
    refine ⟨_, _, rfl, rfl, _, rfl, by omega, by omega, ?_⟩
    refine for_range (lo := 0) (n := (1 + r2).toNat) (fun i σ H3 => ∃ (l : Addr) (ws : List Str) (x3 x4 x5 x6 : Option V), σ = [some (.ref q), some (.ref a), some (.ref l), x3, x4, x5, x6] ∧ But q H H3 ∧ Pl H3 q ∧ H3 a = some (.lst (ns.map V.str)) ∧ H3 l = some (.lst (ws.map V.str)) ∧ Pth ns ws ∧ ws.length = 1 + 2 * i) ?_ ?_ ?_
    · exact ⟨l, [n1], none, none, none, none, rfl, (t1.new hl _).trans t2, p2, ha2, hl2, .one m1, rfl⟩
    · rintro i σ H3 hi ⟨l, ws, x3, x4, x5, x6, rfl, t3, p3, ha3, hl3, hp, hw⟩
      refine ⟨_, rfl, _, rfl, _, rfl, a, _, rfl, .inl (SqL.of ha3), _, _, rfl, p3, by rw [List.length_map]; omega, by rw [List.length_map]; omega, fun r4 H4 a4 b4 t4 p4 => ?_⟩
      rw [List.length_map] at b4
      have ha4 := mvp t4 p3 ha3
      have hl4 := mvp t4 p3 hl3
      obtain ⟨n4, m4, e4⟩ := strs_atI (ns := ns) a4 (by omega)
      refine ⟨a, _, _, _, rfl, rfl, SqL.of ha4, e4, ?_⟩
      obtain ⟨us, pl, ew, mp⟩ := hp.last
      have e5 : atI (ws.map V.str) (-1) = some (.str pl) := by
        rw [ew, List.map_append]
        exact atI_last _ _
      have hb8 := hn3 pl mp
      refine ⟨_, rfl, _, rfl, _, _, _, _, rfl, rfl, SqL.of hl4, e5, ?_⟩
      refine ⟨_, rfl, _, rfl, _, _, _, _, rfl, rfl, SqL.of hl4, e5, ⟨_, rfl⟩, _, rfl, rfl, by omega, rfl, ?_⟩
      refine ⟨fun σ H5 => ∃ (d : Str) (x3 x5 : Option V), σ = [some (.ref q), some (.ref a), some (.ref l), x3, some (.str n4), x5, some (.str d)] ∧ But q H H5 ∧ Pl H5 q ∧ H5 a = some (.lst (ns.map V.str)) ∧ H5 l = some (.lst (ws.map V.str)) ∧ (d = "up" ∨ d = "down"), ?_, ?_⟩
      · have fin : ∀ x y : Str, (x = "up" ∨ x = "down") → (y = "up" ∨ y = "down") → ∀ b : Bool, ∃ d : Str, atI [V.str x, V.str y] (if b then 1 else 0) = some (V.str d) ∧ (d = "up" ∨ d = "down") := fun x y hx hy b => by
          cases b with
          | true => exact ⟨y, rfl, hy⟩
          | false => exact ⟨x, rfl, hx⟩
        have rest : ∀ x y : Str, (x = "up" ∨ x = "down") → (y = "up" ∨ y = "down") → ∀ l2, H4 l2 = none → ∀ (r6 : Int) (H6 : Hp), But q (upd H4 l2 (.lst [.str x, .str y])) H6 → Pl H6 q → ∀ Qv : V → Hp → Prop,
            (∀ d : Str, (d = "up" ∨ d = "down") → Qv (.str d) H6) → ∃ p xs i v, V.ref l2 = .ref p ∧ V.int (if decide (V.int r6 = V.int 0) = true then 1 else 0) = .int i ∧ SqL K H6 p xs ∧ atI xs i = some v ∧ Qv v H6 := fun x y hx hy l2 hl2 r6 H6 t6 p6 Qv hQ => by
          have hl6 : H6 l2 = some (.lst [.str x, .str y]) := mvp (us := [x, y]) t6 (p4.up (same1 hl2 _)) upd_same
          obtain ⟨d, ed, hd⟩ := fin x y hx hy (decide (V.int r6 = V.int 0))
          exact ⟨l2, _, _, _, rfl, rfl, SqL.of hl6, ed, hQ d hd⟩
        have go : ∀ x y : Str, (x = "up" ∨ x = "down") → (y = "up" ∨ y = "down") → ∀ l2, H4 l2 = none → ∀ (r6 : Int) (H6 : Hp), But q (upd H4 l2 (.lst [.str x, .str y])) H6 → Pl H6 q → But q H H6 ∧ H6 a = some (.lst (ns.map V.str)) ∧ H6 l = some (.lst (ws.map V.str)) := fun x y hx hy l2 hl2 r6 H6 t6 p6 =>
          ⟨((t3.trans t4).new hl2 _).trans t6, mvp t6 (p4.up (same1 hl2 _)) (same1 hl2 _ _ _ ha4), mvp t6 (p4.up (same1 hl2 _)) (same1 hl2 _ _ _ hl4)⟩
        refine ⟨_, rfl, _, rfl, ite2 (fun _ => ?_) (fun _ => ?_)⟩
        · refine ⟨_, rfl, _, rfl, ite2 (fun _ => ?_) (fun z => ?_)⟩
          · refine ⟨by show 2 ≤ sizeLine; decide, fun l2 hl2 => ?_⟩
            refine ⟨_, rfl, _, _, rfl, p4.up (same1 hl2 _), by decide, by decide, fun r6 H6 a6 b6 t6 p6 => ⟨rfl, .inr ⟨_, rfl, ?_⟩⟩⟩
            obtain ⟨g1, g2, g3⟩ := go "down" "up" (.inr rfl) (.inl rfl) l2 hl2 r6 H6 t6 p6
            exact rest "down" "up" (.inr rfl) (.inl rfl) l2 hl2 r6 H6 t6 p6 _ fun d hd => ⟨d, _, _, rfl, g1, p6, g2, g3, hd⟩
          · exact absurd ‹_› z
        · refine ⟨_, rfl, _, rfl, ite2 (fun z => ?_) (fun _ => ?_)⟩
          · exact absurd z ‹_›
          · refine ⟨by show 2 ≤ sizeLine; decide, fun l2 hl2 => ?_⟩
            refine ⟨_, rfl, _, _, rfl, p4.up (same1 hl2 _), by decide, by decide, fun r6 H6 a6 b6 t6 p6 => ⟨rfl, .inr ⟨_, rfl, ?_⟩⟩⟩
            obtain ⟨g1, g2, g3⟩ := go "up" "down" (.inl rfl) (.inr rfl) l2 hl2 r6 H6 t6 p6
            exact rest "up" "down" (.inl rfl) (.inr rfl) l2 hl2 r6 H6 t6 p6 _ fun d hd => ⟨d, _, _, rfl, g1, p6, g2, g3, hd⟩
      · rintro σ H5 ⟨d, x3, x5, rfl, t5, p5, ha5, hl5, hd⟩
        refine ⟨_, rfl, _, rfl, _, rfl, (by show 2 ≤ sizeLine; decide), fun l2 hl2 => ?_⟩
        have s2 := same1 hl2 (.lst [.str d, .str n4])
        have hll : (ws.map V.str).length + 2 ≤ sizeLine := by rw [List.length_map, hw]; have : (1 + r2).toNat ≤ 4 := by omega
                                                              have : 1 + 2 * i + 2 < 1000 := by omega
                                                              exact Nat.le_of_lt (small1000 (by omega))
        refine ⟨_, _, _, _, rfl, rfl, s2 _ _ hl5, upd_same, hll, fun l3 hl3 => ?_⟩
        have s3 := same_new s2 hl3 (.lst (ws.map V.str ++ [.str d, .str n4]))
        refine ⟨l3, ws ++ [d, n4], _, _, _, _, rfl, (t5.new hl2 _).new hl3 _, p5.up s3, s3 _ _ ha5, ?_, .step hp hd m4, by simp [hw]; omega⟩
        rw [upd_same, List.map_append]
        rfl
    · rintro σ H3 ⟨l, ws, x3, x4, x5, x6, rfl, t3, p3, ha3, hl3, hp, hw⟩
      refine ⟨_, rfl, _, _, rfl, .inl ⟨SqL.of hl3, fun p np => ?_⟩⟩
      exact k p ws _ (t3.new np _) (p3.up (same1 np _)) upd_same hp (by omega) (by omega)) (fun _ _ _ _ _ _ us hl => match us, hl with | [_, _], _ => rfl)
theorem cal_coefficient (T : TX P K mg) : Cal P w K mg base CX0 1 "_law_coefficient" spCoef := T.g_law_coefficient.cal (ps := ["_law_path_here", "_law_point"]) (fun f fd F => by
  refine F.ok c_law_coefficient (fun vs H Q E h => ?_) (fun cdv A outer s H vs Q E hr h => ?_)
  · obtain ⟨a, ws, n, rfl, _⟩ := h
    rfl
  · obtain ⟨a, ws, n, rfl, ha, h3, h9, k⟩ := h
    have nd := c_law_coefficient.nd
    refine ⟨_, pss_cons (ps_set (i := 2) nd rfl (Or.inl rfl) pe_int)
      (pss_cons (ps_for PassesOwn.never rfl (pi_range3 rfl T.f_range (pa_cons pe_int (pa_cons (pe_op op_sub (pe_callB call_len_seq (by rfl) T.f_len PySem.boot_len (pa_cons (pv 0) pa_nil)) pe_int) (pa_cons pe_int pa_nil)))) (pg_name (i := 3) nd rfl (Or.inl rfl))
        (pss_cons (ps_par (i := 4) (j := 5) (by rfl) nd rfl rfl (by decide) rfl rfl (pa_cons (pe_ix ix_tup (pv 0) (pv 3) (fun _ _ => rfl)) (pa_cons (pe_ix ix_tup (pv 0) (pe_op op_add (pv 3) pe_int) (fun _ _ => rfl)) pa_nil)) (by rfl))
        (pss_cut (ps_if (pt_cmpR op_eq (pe_ix ix_tup (pv 0) (pe_op op_add (pv 3) pe_int) (fun _ _ => rfl)) pe_str (nomark _))
          (pss_one (ps_par (i := 4) (j := 5) (by rfl) nd rfl rfl (by decide) rfl rfl (pa_cons (pv 5) (pa_cons (pv 4) pa_nil)) (by rfl))) pss_nil)
        (pss_one (ps_set (i := 2) nd rfl (Or.inl rfl) (pe_op op_sub (pe_op op_add (pv 2) (pe_callTy call_int1 (by rfl) T.f_int (by decide +kernel) (pa_cons (pe_cmpR op_eq (pv 5) (pv 1) (nomark _)) pa_nil)))
          (pe_callTy call_int1 (by rfl) T.f_int (by decide +kernel) (pa_cons (pe_cmpR op_eq (pv 4) (pv 1) (nomark _)) pa_nil))))))))
      (pss_one (ps_ret (pv 2)))), ?_⟩
    have hlen : (ws.map V.str).length = ws.length := List.length_map ..
    refine ⟨_, rfl, _, _, rfl, .inr (SqT.of ha), _, _, rfl, rfl, _, _, _, (ws.length - 1) / 2, rfl, by rw [hlen]; exact rg2 _ (by omega) h3, ?_⟩
    refine for_rangeC (lo := 0) (c := 2) (n := (ws.length - 1) / 2) (fun i σ H2 => ∃ (c : Int) (x3 x4 x5 : Option V), σ = [some (.ref a), some (.str n), some (.int c), x3, x4, x5] ∧ H2 = H ∧ c.natAbs ≤ i) ⟨0, none, none, none, rfl, rfl, by decide⟩ ?_ ?_
    · rintro i σ H2 hi ⟨c, x3, x4, x5, rfl, rfl, hc⟩
      have h1 : i * 2 < ws.length := by omega
      have h2 : i * 2 + 2 < ws.length := by omega
      have h4 : i * 2 + 1 < ws.length := by omega
      have e1 : atI (ws.map V.str) (0 + (i : Nat) * 2) = some (.str ws[i * 2]) := by
        have : (0 + (i : Int) * 2) = ((i * 2 : Nat) : Int) := by omega
        rw [this]
        exact strs_at h1
      have e2 : atI (ws.map V.str) (0 + (i : Nat) * 2 + 2) = some (.str ws[i * 2 + 2]) := by
        have : (0 + (i : Int) * 2 + 2) = ((i * 2 + 2 : Nat) : Int) := by omega
        rw [this]
        exact strs_at h2
      have e3 : atI (ws.map V.str) (0 + (i : Nat) * 2 + 1) = some (.str ws[i * 2 + 1]) := by
        have : (0 + (i : Int) * 2 + 1) = ((i * 2 + 1 : Nat) : Int) := by omega
        rw [this]
        exact strs_at h4
      refine ⟨_, rfl, _, rfl, _, _, _, _, rfl, rfl, SqT.of ha, e1, _, rfl, _, rfl, _, _, rfl, rfl, _, _, _, _, rfl, rfl, SqT.of ha, e2, _, _, rfl, ?_⟩
      refine ⟨fun σ H' => ∃ (x3 : Option V) (l u : Str), σ = [some (.ref a), some (.str n), some (.int c), x3, some (.str l), some (.str u)] ∧ H' = H2, ?_, ?_⟩
      · refine ⟨_, rfl, _, rfl, _, _, rfl, rfl, _, _, _, _, rfl, rfl, SqT.of ha, e3, rfl, _, rfl, ite2 (fun _ => ?_) (fun _ => ?_)⟩
        · exact ⟨_, rfl, _, rfl, _, _, rfl, _, _, _, rfl, rfl⟩
        · exact ⟨_, _, _, rfl, rfl⟩
      · rintro σ H2 ⟨x3, l, u, rfl, rfl⟩
        refine ⟨_, rfl, _, rfl, _, rfl, rfl, .inr ⟨_, rfl, _, _, rfl, rfl, _, rfl, _, rfl, rfl, .inr ⟨_, rfl, _, _, rfl, rfl, _, _, _, _, rfl, rfl, ?_⟩⟩⟩
        have hb : ∀ b b' : Bool, (c + (if b then 1 else 0) - (if b' then 1 else 0)).natAbs ≤ c.natAbs + 1 := by
          intro b b'
          cases b <;> cases b' <;> simp <;> omega
        have := hb (decide (V.str u = V.str n)) (decide (V.str l = V.str n))
        omega
    · rintro σ H2 ⟨c, x3, x4, x5, rfl, rfl, hc⟩
      exact ⟨_, rfl, k c (by omega)⟩) (fun _ _ _ _ _ _ us hl => match us, hl with | [_, _], _ => rfl)
end
end K7

set_option Elab.async false
set_option linter.all false
set_option maxRecDepth 100000
set_option maxHeartbeats 2000000
/-! Names, paths, the parts of a work. -/
namespace K7
open PySem PySem.Spec PyProof.Rows L2
/-! ### walks for dict comprehensions -/
theorem dc_it {J : It} {n : Nat} {G : Hp → Prop} {Y : Nat → Hp → V → Hp → Prop} (w : Walk J n G Y) {g : TG} {tt : TT} {tk tv : TE} {vs : List Nat} {σ : St} {H1 : Hp} {D : Addr} {Qd : Hp → Prop} (Pv : Nat → Hp → Prop) (h0 : Pv 0 (upd H1 D (.dK []))) (hG : ∀ i H, i ≤ n → Pv i H → G H)
    (hs : ∀ i x H H', i < n → Pv i H → Y i H x H' → g x (wipe σ vs) H' fun σ2 H2 => wipe σ2 vs = wipe σ vs ∧ tt σ2 H2 fun b H3 =>
      if b = true then tk σ2 H3 fun y H4 => tv σ2 H4 fun z H5 => ∃ kvs k, y = kV k ∧ H5 D = some (.dK kvs) ∧ kvs.length < sizeLine ∧ Pv (i + 1) (upd H5 D (.dK (putK kvs k z))) else Pv (i + 1) H3) (hd : ∀ H, Pv n H → Qd H) :
    ∃ W : Nat → Nat → Hp → Prop, (∃ m, W 0 m (upd H1 D (.dK []))) ∧ ∀ i m H, W i m H →
      (J.stop i H ∧ Qd H) ∨ (J.go i H ∧ ∃ Nx : Hp → Prop, (∀ H', Nx H' → ∃ m', m' < m ∧ W (i + 1) m' H') ∧ ∀ x H', J.yld i H x H' → g x (wipe σ vs) H' fun σ2 H2 => wipe σ2 vs = wipe σ vs ∧ tt σ2 H2 fun b H3 =>
        if b = true then tk σ2 H3 fun y H4 => tv σ2 H4 fun z H5 => ∃ kvs k, y = kV k ∧ H5 D = some (.dK kvs) ∧ kvs.length < sizeLine ∧ Nx (upd H5 D (.dK (putK kvs k z))) else Nx H3) := by
  refine ⟨fun i m H => m = n - i ∧ i ≤ n ∧ Pv i H, ⟨n, by simp, Nat.zero_le _, h0⟩, ?_⟩
  rintro i m H ⟨rfl, hi, p⟩
  have q := hG i H hi p
  by_cases hlt : i < n
  · refine .inr ⟨w.goes i H hlt q, Pv (i + 1), fun H' p' => ⟨n - (i + 1), by omega, rfl, hlt, p'⟩, fun x H' y => hs i x H H' hlt p (w.yields i H x H' hlt q y)⟩
  · have e : i = n := by omega
    subst e
    exact .inl ⟨w.stops H q, hd H p⟩
/-! ### what is asked -/
def cIn (L : Str) (c : Nat) : Bool := decide (c ∈ L.cps.toList)
def WordB (L z : Str) : Bool := (decide (1 ≤ z.length) && decide (z.length ≤ 8)) && z.cps.toList.all (cIn L)
def SMALL : Str := "abcdefghijklmnopqrstuvwxyz"
def GREAT : Str := "ABCDEFGHIJKLMNOPQRSTUVWXYZ"
abbrev NameB (z : Str) : Bool := WordB SMALL z
abbrev GreatB (z : Str) : Bool := WordB GREAT z
theorem WordB.len {L z : Str} (h : WordB L z = true) : z.length ≤ 8 := by
  unfold WordB at h
  simp only [Bool.and_eq_true, decide_eq_true_eq] at h
  exact h.1.2
def altS (i : Nat) (ws : List Str) : List Str := (List.range (Builtin.Slice.slicePlaces (i : Int) (ws.length : Int) 2)).filterMap fun k => ws[i + 2 * k]?
theorem alt_strs (i : Nat) (ws : List Str) : alt i (ws.map V.str) = (altS i ws).map V.str := by
  unfold alt altS
  rw [List.length_map, List.map_filterMap]
  congr 1
  funext k
  rw [List.getElem?_map]
theorem mem_altS {i : Nat} {ws : List Str} (hi : i ≤ ws.length) {x : Str} : x ∈ altS i ws ↔ ∃ k, ws[i + 2 * k]? = some x := by
  unfold altS
  rw [List.mem_filterMap]
  constructor
  · rintro ⟨k, _, e⟩
    exact ⟨k, e⟩
  · rintro ⟨k, e⟩
    refine ⟨k, List.mem_range.mpr ((places_two hi k).mpr ?_), e⟩
    exact (List.getElem?_eq_some_iff.mp e).1
def DIRS : List Str := ["up", "down"]
/-- a path: isT, a tuple -/
def PathB (pts : List Str) (isT : Bool) (ws : List Str) : Bool := isT && (decide (ws.length % 2 = 1) && (decide (3 ≤ ws.length) && (decide (ws.length ≤ 23) && ((altS 0 ws).all (fun x => decide (x ∈ pts)) && (altS 1 ws).all (fun x => decide (x ∈ DIRS))))))
def dPath (isT : Bool) (ws : List Str) : PyData := if isT then .tuple (ws.map .str) else .list (ws.map .str)
/-! ### promises -/
def spWord : Sp := fun vs H Q _ => ∃ z L : Str, vs = [.str z, .str L] ∧ z.length ≤ 100 ∧ ∀ H', Same H H' → Q (.bl (WordB L z)) H'
def spName : Sp := fun vs H Q _ => ∃ z : Str, vs = [.str z] ∧ z.length ≤ 100 ∧ ∀ H', Same H H' → Q (.bl (NameB z)) H'
theorem replicate_snoc (n : Nat) (v : V) : List.replicate n v ++ [v] = List.replicate (n + 1) v := by
  rw [List.replicate_succ']
theorem small100 {n : Nat} (h : n ≤ 100) : n < sizeLine := small1000 (by omega)
section
variable {P : Program} {w : World} {K : PySem.W.Frag} {mg : Str → Option Value} {base : Heap}
theorem cal_is_word (T : TX P K mg) : Cal P w K mg base CX0 1 "is_word" spWord := T.g_is_word.cal (ps := ["value", "letters"]) (fun f fd F => by
  refine F.ok c_is_word (fun vs H Q E h => ?_) (fun cdv A outer s H vs Q E hr h => ?_)
  · obtain ⟨z, L, rfl, _⟩ := h
    rfl
  · obtain ⟨z, L, rfl, hz, k⟩ := h
    have nd := c_is_word.nd
    obtain ⟨t8, h8⟩ := T.i_MAX_LETTERS
    refine ⟨_, pss_cons (ps_if (PW.pt (pw_or (pt_not (pt_val (pe_callB call_isi (by rfl) T.f_isinstance boot_isinstance (pa_cons (pv 0) (pa_cons (pe_bltn (v := .ty "str") (by rfl) T.f_str (by decide +kernel) rfl) pa_nil)))))
          (pw_or1 (pt_not (pt_chain op_le op_le pe_int (pe_callB call_len (by rfl) T.f_len PySem.boot_len (pa_cons (pv 0) pa_nil)) (pe_glob (v := .int 8) rfl h8 ⟨_, rfl⟩)))))) (pss_one (ps_ret pe_bl)) pss_nil)
      (pss_one (ps_ret (pe_callB (cr_all rfl) (by rfl) T.f_all (by decide +kernel) (pa_cons (pe_lc (own := [("letter", 2)]) (g := gName 2) (tt := tYes) rfl nd (pi_str (pv 0)) (blkOk_by (own := [("letter", 2)]) (N := n_is_word) (sc := defScope s_is_word) (by decide +kernel))
        (fun _ _ _ _ _ => pg_name (i := 2) nd rfl (Or.inl rfl)) (fun _ _ _ _ _ => pts_nil) (fun _ _ _ _ _ => pe_cmpR op_in_sign (pv 2) (pv 1) rfl)) pa_nil)))), ?_⟩
    refine ⟨_, rfl, _, _, _, _, true, rfl, .ty _, .base (.str z), kit_ty (by decide +kernel), _, rfl, iteF ?_⟩
    refine ⟨_, rfl, _, _, rfl, ⟨by exact Nat.le_of_lt (small100 hz), rfl⟩, _, _, rfl, rfl, _, rfl, ite2 (fun h1 => ?_) (fun h1 => ?_)⟩
    · refine ⟨_, _, rfl, rfl, _, rfl, ?_⟩
      by_cases h2 : z.length ≤ 8
      · rw [decide_eq_true (show ((z.length : Nat) : Int) ≤ 8 by omega)]
        refine iteF ?_
        refine ⟨_, rfl, z, rfl, fun D hD => ?_⟩
        refine lc_it walk_str (fun i H2 => H2 D = some (.lst ((z.cps.toList.take i).map fun c => V.bl (cIn L c))) ∧ Same H H2) ⟨upd_same, same1 hD _⟩ (fun _ _ _ _ => True.intro) ?_ ?_
        · rintro i x H2 H3 hi ⟨e1, s1⟩ ⟨rfl, c, ec, rfl⟩
          refine ⟨rfl, _, rfl, _, rfl, _, _, rfl, rfl, _, e1, ?_, ?_, ?_⟩
          · rw [List.length_map, List.length_take]
            have : z.cps.toList.length = z.length := rfl
            exact small100 (by omega)
          · rw [upd_same]
            have ec' : z.cps.toList[i]? = some c := by rw [← ec]; simp
            rw [List.take_add_one, ec', List.map_append]
            rfl
          · exact Same.back (fun b o n h => s1 b o h) hD _
        · rintro H2 ⟨e1, s1⟩
          have el : z.cps.toList.take z.cps.size = z.cps.toList := by rw [← Array.length_toList, List.take_length]
          rw [el] at e1
          refine ⟨D, z.cps.toList.map (cIn L), rfl, SqL.of (by rw [List.map_map]; exact e1), ?_⟩
          have e3 : ((z.cps.toList.map (cIn L)).all id) = WordB L z := by
            unfold WordB
            have h1' : 1 ≤ z.length := by
              have : (1 : Int) ≤ (z.length : Nat) := of_decide_eq_true h1
              omega
            rw [decide_eq_true h1', decide_eq_true h2, List.all_map]
            rfl
          rw [e3]
          exact k H2 s1
      · rw [decide_eq_false (show ¬ ((z.length : Nat) : Int) ≤ 8 by omega)]
        refine iteT ?_
        have e : WordB L z = false := by
          unfold WordB
          rw [decide_eq_false h2, Bool.and_false, Bool.false_and]
        have := k H (Same.refl H)
        rw [e] at this
        exact this
    · refine ⟨_, rfl, iteT ?_⟩
      have h1' : ¬ 1 ≤ z.length := fun q => h1 (decide_eq_true (show (1 : Int) ≤ (z.length : Nat) by omega))
      have e : WordB L z = false := by
        unfold WordB
        rw [decide_eq_false h1', Bool.false_and, Bool.false_and]
      have := k H (Same.refl H)
      rw [e] at this
      exact this) (fun _ _ _ _ _ _ us hl => match us, hl with | [_, _], _ => rfl)
theorem cal_is_name (T : TX P K mg) : Cal P w K mg base CX0 2 "is_name" spName := T.g_is_name.cal (ps := ["value"]) (fun f fd F => by
  refine F.ok c_is_name (fun vs H Q E h => ?_) (fun cdv A outer s H vs Q E hr h => ?_)
  · obtain ⟨z, rfl, _⟩ := h
    rfl
  · obtain ⟨z, rfl, hz, k⟩ := h
    obtain ⟨t, ht⟩ := T.s_SMALL
    refine ⟨_, pss_one (ps_ret (pe_cal (cal_is_word T) hr pass0 (pa_cons (pv 0) (pa_cons (pe_glob (v := .str SMALL) rfl ht ⟨_, rfl⟩) pa_nil)))), ?_⟩
    exact ⟨_, rfl, z, _, rfl, hz, k⟩) (fun _ _ _ _ _ _ us hl => match us, hl with | [_], _ => rfl)
end
end K7

set_option Elab.async false
set_option linter.all false
set_option maxRecDepth 100000
set_option maxHeartbeats 2000000
/-! Paths, ropes, hooks, anchors; dicts in order. -/
namespace K7
open PySem PySem.Spec PyProof.Rows L2
theorem lc_bools {J : It} {n : Nat} {G : Hp → Prop} {Y : Nat → Hp → V → Hp → Prop} (w : Walk J n G Y) {g : TG} {te : TE} {vs : List Nat} {σ : St} {H1 : Hp} {D : Addr} {Qd : Hp → Prop} (bs : List Bool) (hD : H1 D = none) (hn : bs.length = n) (hz : n ≤ 500) (hG : ∀ H, But D H1 H → G H)
    (hs : ∀ i x H H', i < n → But D H1 H → Y i H x H' → ∀ Nx : V → Hp → Prop, (∀ H4 b, Same H H4 → bs[i]? = some b → Nx (.bl b) H4) → g x (wipe σ vs) H' fun σ2 H2 => wipe σ2 vs = wipe σ vs ∧ te σ2 H2 Nx)
    (hd : ∀ H, But D H1 H → H D = some (.lst (bs.map V.bl)) → Qd H) :
    ∃ W : Nat → Nat → Hp → Prop, (∃ m, W 0 m (upd H1 D (.lst []))) ∧ ∀ i m H, W i m H →
      (J.stop i H ∧ Qd H) ∨ (J.go i H ∧ ∃ Nx : Hp → Prop, (∀ H', Nx H' → ∃ m', m' < m ∧ W (i + 1) m' H') ∧ ∀ x H', J.yld i H x H' → g x (wipe σ vs) H' fun σ2 H2 => wipe σ2 vs = wipe σ vs ∧ tYes σ2 H2 fun b H3 =>
        if b = true then te σ2 H3 fun y H4 => ∃ acc, H4 D = some (.lst acc) ∧ acc.length < sizeLine ∧ Nx (upd H4 D (.lst (acc ++ [y]))) else Nx H3) := by
  refine lc_it w (fun i H => But D H1 H ∧ H D = some (.lst ((bs.take i).map V.bl))) ⟨(But.refl D H1).put _, upd_same⟩ (fun i H _ p => hG H p.1) ?_ (fun H p => hd H p.1 (by have := p.2; rw [← hn, List.take_length] at this; exact this))
  rintro i x H H' hi ⟨hb, hl⟩ y
  refine hs i x H H' hi hb y _ fun H4 b s eb => ⟨_, s _ _ hl, ?_, (hb.trans (but_of s)).put _, ?_⟩
  · rw [List.length_map, List.length_take]
    exact small1000 (by omega)
  · rw [upd_same, List.take_add_one, eb, List.map_append]
    rfl
theorem all_replicate {n : Nat} : (List.replicate n true).all id = true := by
  induction n with
  | zero => rfl
  | succ n ih => rw [List.replicate_succ, List.all_cons, ih]; rfl
theorem eqV_str (x y : Str) : eqV (.str y) (.str x) = decide (y = x) := rfl
theorem inV_strs (x : Str) (ns : List Str) : inV (.str x) (ns.map V.str) = decide (x ∈ ns) := by
  unfold inV
  rw [List.any_map]
  induction ns with
  | nil => rfl
  | cons n ns ih =>
    rw [List.any_cons, ih]
    show (decide (n = x) || decide (x ∈ ns)) = decide (x ∈ n :: ns)
    by_cases e : n = x
    · subst e; simp
    · have e' : ¬ x = n := fun z => e z.symm
      simp [e, e']
theorem strs_flatV (ns : List Str) : (ns.map V.str).all flatV = true := by
  rw [List.all_map]
  exact List.all_eq_true.mpr fun _ _ => rfl
/-- a path's value -/
theorem dPath_inv {H : Hp} {v : V} {b : Bool} {ws : List Str} (h : Dt H v (dPath b ws)) : ∃ a, v = .ref a ∧ H a = some (if b then .tup (ws.map V.str) else .lst (ws.map V.str)) := by
  cases b with
  | true =>
    cases h with
    | tup e t => rw [dtl_strs_eq t] at e; exact ⟨_, rfl, e⟩
  | false =>
    cases h with
    | lst e f t => rw [dtl_strs_eq t] at e; exact ⟨_, rfl, e⟩
theorem dPath_mk {H : Hp} {a : Addr} {ws : List Str} (h : H a = some (.tup (ws.map V.str))) : Dt H (.ref a) (dPath true ws) := .tup h (dtl_strs ws)
def spIsPath : Sp := fun vs H Q _ => ∃ (v : V) (pa : Addr) (pts : List Str) (b : Bool) (ws : List Str), vs = [v, .ref pa] ∧ Dt H v (dPath b ws) ∧ H pa = some (.lst (pts.map V.str)) ∧ ws.length ≤ 100 ∧ ∀ H', Same H H' → Q (.bl (PathB pts b ws)) H'
/-- a rope's value -/
def dRp (r : (Bool × List Str) × Fr) : PyData := .tuple [dPath r.1.1 r.1.2, dFr r.2]
theorem dRp_inv {H : Hp} {v : V} {r : (Bool × List Str) × Fr} (h : Dt H v (dRp r)) : ∃ a v1 v2, v = .ref a ∧ H a = some (.tup [v1, v2]) ∧ Dt H v1 (dPath r.1.1 r.1.2) ∧ Dt H v2 (dFr r.2) := by
  cases h with
  | tup e t =>
    cases t with
    | cons h1 t =>
      cases t with
      | cons h2 t =>
        cases t
        exact ⟨_, _, _, rfl, e, h1, h2⟩
def RopeB (pts : List Str) (r : (Bool × List Str) × Fr) : Bool := PathB pts r.1.1 r.1.2 && decide (FrOk r.2)
def spIsRope : Sp := fun vs H Q _ => ∃ (v : V) (pa : Addr) (pts : List Str) (r : (Bool × List Str) × Fr), vs = [v, .ref pa] ∧ Dt H v (dRp r) ∧ H pa = some (.lst (pts.map V.str)) ∧ r.1.2.length ≤ 100 ∧ ∀ H', Same H H' → Q (.bl (RopeB pts r)) H'
/-- hooks, anchors that are valid -/
def spDict (okN : Str → Bool) (okF : Fr → Prop) (lo hi : Nat) : Sp := fun vs H Q _ => ∃ (d : Addr) (m : List (Str × Fr)), vs = [.ref d] ∧ DA dFr H d m ∧ lo ≤ m.length ∧ m.length ≤ hi ∧ (∀ p ∈ m, okN p.1 = true ∧ okF p.2) ∧ ∀ H', Same H H' → Q (.bl true) H'
def spOrdered : Sp := fun vs H Q _ => ∃ (d : Addr) (kvs : List (Key × V)) (ks : List Str), vs = [.ref d] ∧ H d = some (.dK kvs) ∧ kvs.map (·.1) = ks.map Sum.inr ∧ ks.Nodup ∧ ks.length < 64 ∧ ∀ p kvs' H', Same H H' → H p = none → H' p = some (.dK kvs') → kvs'.Perm kvs → (∃ ys : List Str, kvs'.map (·.1) = ys.map Sum.inr ∧ ys.Perm ks ∧ sortedS ys = true) → Q (.ref p) H'
section
variable {P : Program} {w : World} {K : PySem.W.Frag} {mg : Str → Option Value} {base : Heap}
theorem cal_is_path (T : TX P K mg) : Cal P w K mg base CX0 1 "is_path" spIsPath := T.g_is_path.cal (ps := ["value", "points"]) (fun f fd F => by
  refine F.ok c_is_path (fun vs H Q E h => ?_) (fun cdv A outer s H vs Q E hr h => ?_)
  · obtain ⟨v, pa, pts, b, ws, rfl, _⟩ := h
    rfl
  · obtain ⟨v, pa, pts, b, ws, rfl, dv, hpa, hw, k⟩ := h
    have nd := c_is_path.nd
    obtain ⟨t12, h12⟩ := T.i_MAX_POINTS
    have okB : ∀ sc : Scope, blkC n_is_path (defScope s_is_path) sc [("word", 2)] = true → BlkOk n_is_path (defScope s_is_path) sc [("word", 2)] := fun sc h => blkOk_by h
    refine ⟨_, pss_cons (ps_if (PW.pt (pw_or (pt_not (pt_val (pe_callB call_isi (by rfl) T.f_isinstance boot_isinstance (pa_cons (pv 0) (pa_cons (pe_bltn (v := .ty "tuple") (by rfl) T.f_tuple (by decide +kernel) rfl) pa_nil)))))
          (pw_or (pt_cmpR op_ne (pe_op op_mod (pe_callB call_len_seq (by rfl) T.f_len PySem.boot_len (pa_cons (pv 0) pa_nil)) pe_int) pe_int (nomark _))
          (pw_or1 (pt_not (pt_chain op_le op_le pe_int (pe_callB call_len_seq (by rfl) T.f_len PySem.boot_len (pa_cons (pv 0) pa_nil)) (pe_op op_sub (pe_op op_mul pe_int (pe_glob (v := .int 12) rfl h12 ⟨_, rfl⟩)) pe_int))))))) (pss_one (ps_ret pe_bl)) pss_nil)
      (pss_cons (ps_if (pt_not (pt_val (pe_callB (cr_all rfl) (by rfl) T.f_all (by decide +kernel) (pa_cons (pe_lc (own := [("word", 2)]) (g := gName 2) (tt := tYes) rfl nd (pi_tup (pv 0)) (blkOk_by (own := [("word", 2)]) (N := n_is_path) (sc := defScope s_is_path) (by decide +kernel))
        (fun _ _ _ _ _ => pg_name (i := 2) nd rfl (Or.inl rfl)) (fun _ _ _ _ _ => pts_nil) (fun _ _ _ _ _ => pe_callB (show CallR _ _ (rIsi K) from call_isi) (by rfl) T.f_isinstance boot_isinstance (pa_cons (pv 2) (pa_cons (pe_bltn (v := .ty "str") (by rfl) T.f_str (by decide +kernel) rfl) pa_nil)))) pa_nil)))) (pss_one (ps_ret pe_bl)) pss_nil)
      (pss_one (ps_ret (pe_and (pe_callB (cr_all rfl) (by rfl) T.f_all (by decide +kernel) (pa_cons (pe_lc (own := [("word", 2)]) (g := gName 2) (tt := tYes) rfl nd (pi_tup (pe_slice2 (pv 0) po_none)) (blkOk_by (own := [("word", 2)]) (N := n_is_path) (sc := defScope s_is_path) (by decide +kernel))
        (fun _ _ _ _ _ => pg_name (i := 2) nd rfl (Or.inl rfl)) (fun _ _ _ _ _ => pts_nil) (fun _ _ _ _ _ => pe_cmpR (show OpR _ (compareOp .In) (rIn K false) from op_in_seq) (pv 2) (pv 1) rfl)) pa_nil))
        (pe_one (pe_callB (cr_all rfl) (by rfl) T.f_all (by decide +kernel) (pa_cons (pe_lc (own := [("word", 2)]) (g := gName 2) (tt := tYes) rfl nd (pi_tup (pe_slice2 (pv 0) (po_some pe_int))) (blkOk_by (own := [("word", 2)]) (N := n_is_path) (sc := defScope s_is_path) (by decide +kernel))
        (fun _ _ _ _ _ => pg_name (i := 2) nd rfl (Or.inl rfl)) (fun _ _ _ _ _ => pts_nil) (fun _ _ _ _ _ => pe_cmpR (show OpR _ (compareOp .In) (rIn K false) from op_in_seq) (pv 2) (pe_glob (v := .ref (ga K "DIRECTIONS")) rfl T.g_DIR rfl) rfl)) pa_nil))))))), ?_⟩
    obtain ⟨a, rfl, ha⟩ := dPath_inv dv
    cases b with
    | false =>
      refine ⟨_, rfl, _, _, _, _, false, rfl, .ty _, .base (.lst ha), kit_ty (by decide +kernel), _, rfl, iteT ?_⟩
      exact k H (Same.refl H)
    | true =>
      replace ha : H a = some (.tup (ws.map V.str)) := ha
      have hl : (ws.map V.str).length = ws.length := List.length_map ..
      refine ⟨_, rfl, _, _, _, _, true, rfl, .ty _, .base (.tup ha), kit_ty (by decide +kernel), _, rfl, iteF ?_⟩
      refine ⟨_, rfl, _, _, rfl, .inr (SqT.of ha), _, _, rfl, rfl, (by show (0 : Int) < 2; decide), rfl, _, rfl, ?_⟩
      have e1 : decide (V.int (((ws.map V.str).length : Int) % 2) = V.int 1) = decide (ws.length % 2 = 1) := decide_eq_decide.mpr ⟨fun z => by injection z with z; rw [hl] at z; omega, fun z => by rw [hl]; congr 1; omega⟩
      show if (!decide (V.int (((ws.map V.str).length : Int) % 2) = V.int 1)) = true then _ else _
      rw [e1]
      by_cases c1 : ws.length % 2 = 1
      case neg =>
        rw [decide_eq_false c1]
        refine iteT ?_
        have := k H (Same.refl H)
        unfold PathB at this
        rw [decide_eq_false c1, Bool.false_and, Bool.and_false] at this
        exact this
      rw [decide_eq_true c1]
      refine iteF ?_
      refine ⟨_, rfl, _, _, rfl, .inr (SqT.of ha), _, _, rfl, rfl, _, rfl, ?_⟩
      rw [hl]
      by_cases c2 : 3 ≤ ws.length
      case neg =>
        rw [decide_eq_false (show ¬ (3 : Int) ≤ ((ws.length : Nat) : Int) by omega)]
        refine iteF ⟨_, rfl, iteT ?_⟩
        have := k H (Same.refl H)
        unfold PathB at this
        rw [decide_eq_false c2, Bool.false_and, Bool.and_false, Bool.and_false] at this
        exact this
      rw [decide_eq_true (show (3 : Int) ≤ ((ws.length : Nat) : Int) by omega)]
      refine iteT ⟨_, _, rfl, rfl, .inl ⟨by decide, by decide⟩, _, _, rfl, rfl, _, _, rfl, rfl, _, rfl, ?_⟩
      by_cases c3 : ws.length ≤ 23
      case neg =>
        rw [decide_eq_false (show ¬ ((ws.length : Nat) : Int) ≤ 2 * 12 - 1 by omega)]
        refine iteT ?_
        have := k H (Same.refl H)
        unfold PathB at this
        rw [decide_eq_false c3, Bool.false_and, Bool.and_false, Bool.and_false, Bool.and_false] at this
        exact this
      rw [decide_eq_true (show ((ws.length : Nat) : Int) ≤ 2 * 12 - 1 by omega)]
      refine iteF ?_
      have eP : PathB pts true ws = ((altS 0 ws).all (fun x => decide (x ∈ pts)) && (altS 1 ws).all (fun x => decide (x ∈ DIRS))) := by
        unfold PathB
        rw [decide_eq_true c1, decide_eq_true c2, decide_eq_true c3]
        rfl
      rw [eP] at k
      have n1 : (altS 0 ws).length ≤ 100 := by
        have := alt_length 0 (ws.map V.str) (Nat.zero_le _)
        rw [alt_strs, List.length_map, List.length_map] at this
        omega
      have n2 : (altS 1 ws).length ≤ 100 := by
        have := alt_length 1 (ws.map V.str) (by rw [List.length_map]; omega)
        rw [alt_strs, List.length_map, List.length_map] at this
        omega
      -- all are texts
      refine ⟨_, rfl, a, rfl, ⟨_, SqT.of ha⟩, fun D hD => ?_⟩
      have nD : a ≠ D := ne_of_none ha hD
      refine lc_bools (walk_tup (K := K) (xs := ws.map V.str)) (List.replicate ws.length true) hD (by rw [List.length_replicate, hl]) (by omega) (fun H2 b => SqT.of (b a _ nD ha)) ?_ ?_
      · rintro i x H2 H3 hi hb ⟨rfl, ex⟩ Nx hN
        rw [List.getElem?_map] at ex
        obtain ⟨y, ey, rfl⟩ := Option.map_eq_some_iff.mp ex
        refine ⟨rfl, _, rfl, _, _, _, _, true, rfl, .ty _, .base (.str y), kit_ty (by decide +kernel), hN _ _ (Same.refl _) ?_⟩
        rw [List.getElem?_replicate, if_pos (by rw [hl] at hi; exact hi)]
      rintro H2 b2 e2
      have s2 : Same H H2 := b2.same hD
      refine ⟨D, _, rfl, SqL.of e2, _, rfl, ?_⟩
      rw [all_replicate]
      refine iteF ?_
      -- the points
      have ha2 := s2 _ _ ha
      refine ⟨_, rfl, a, _, rfl, SqT.of ha2, Nat.zero_le _, fun p hp => ?_⟩
      rw [alt_strs]
      have s3 : Same H2 _ := same1 hp (.tup ((altS 0 ws).map V.str))
      refine ⟨p, rfl, ⟨_, SqT.of upd_same⟩, fun D2 hD2 => ?_⟩
      have np2 : p ≠ D2 := fun z => by subst z; rw [upd_same] at hD2; cases hD2
      have npa : pa ≠ D2 := ne_of_none (s3 _ _ (s2 _ _ hpa)) hD2
      refine lc_bools (walk_tup (K := K) (xs := (altS 0 ws).map V.str)) ((altS 0 ws).map fun x => decide (x ∈ pts)) hD2 (by rw [List.length_map, List.length_map]) (by rw [List.length_map]; omega) (fun H4 b => SqT.of (b p _ np2 upd_same)) ?_ ?_
      · rintro i x H4 H5 hi hb ⟨rfl, ex⟩ Nx hN
        rw [List.getElem?_map] at ex
        obtain ⟨y, ey, rfl⟩ := Option.map_eq_some_iff.mp ex
        refine ⟨rfl, _, rfl, _, rfl, pa, _, rfl, .inl (SqL.of (hb pa _ npa (s3 _ _ (s2 _ _ hpa)))), rfl, strs_flatV _, ?_⟩
        show Nx (.bl (inV (.str y) (pts.map V.str))) _
        rw [inV_strs]
        exact hN _ _ (Same.refl _) (by rw [List.getElem?_map, ey]; rfl)
      rintro H4 b4 e4
      have s4 : Same H H4 := (s2.trans s3).trans (b4.same hD2)
      refine ⟨D2, _, rfl, SqL.of e4, _, rfl, ?_⟩
      rw [List.all_map]
      cases e0 : (altS 0 ws).all (fun x => decide (x ∈ pts)) with
      | false =>
        have e0' : (altS 0 ws).all (id ∘ fun x => decide (x ∈ pts)) = false := e0
        rw [e0']
        refine iteF ?_
        rw [e0] at k
        exact k H4 s4
      | true =>
        have e0' : (altS 0 ws).all (id ∘ fun x => decide (x ∈ pts)) = true := e0
        rw [e0']
        refine iteT ?_
        rw [e0] at k
        have ha4 := s4 _ _ ha
        have h1 : HT.sIx (ws.map V.str).length 0 (some 1) = 1 := by
          rw [show (some (1 : Int)) = some ((1 : Nat) : Int) from rfl, HT.sIx_nat, hl]
          omega
        refine ⟨_, rfl, _, rfl, a, _, rfl, SqT.of ha4, by rw [h1, hl]; omega, fun p5 hp5 => ?_⟩
        rw [h1, alt_strs]
        have s5 : Same H4 _ := same1 hp5 (.tup ((altS 1 ws).map V.str))
        refine ⟨p5, rfl, ⟨_, SqT.of upd_same⟩, fun D6 hD6 => ?_⟩
        have np6 : p5 ≠ D6 := fun z => by subst z; rw [upd_same] at hD6; cases hD6
        refine lc_bools (walk_tup (K := K) (xs := (altS 1 ws).map V.str)) ((altS 1 ws).map fun x => decide (x ∈ DIRS)) hD6 (by rw [List.length_map, List.length_map]) (by rw [List.length_map]; omega) (fun H4 b => SqT.of (b p5 _ np6 upd_same)) ?_ ?_
        · rintro i x H6 H7 hi hb ⟨rfl, ex⟩ Nx hN
          rw [List.getElem?_map] at ex
          obtain ⟨y, ey, rfl⟩ := Option.map_eq_some_iff.mp ex
          refine ⟨rfl, _, rfl, ga K "DIRECTIONS", DIRS.map V.str, rfl, .inr (T.t_DIR _), rfl, strs_flatV _, ?_⟩
          show Nx (.bl (inV (.str y) (DIRS.map V.str))) _
          rw [inV_strs]
          exact hN _ _ (Same.refl _) (by rw [List.getElem?_map, ey]; rfl)
        rintro H7 b7 e7
        refine ⟨D6, _, rfl, SqL.of e7, ?_⟩
        rw [List.all_map]
        exact k H7 ((s4.trans s5).trans (b7.same hD6))) (fun _ _ _ _ _ _ us hl => match us, hl with | [_, _], _ => rfl)
end
end K7

set_option Elab.async false
set_option linter.all false
set_option maxRecDepth 100000
set_option maxHeartbeats 2000000
/-! Ropes, hooks, anchors; dicts in order; checks. -/
namespace K7
open PySem PySem.Spec PyProof.Rows L2
/-- raised: x(v), its field f -/
def Rs (K : PySem.W.Frag) (x f : Str) (v : V) (H0 : Hp) (E : XK) : Prop := ∀ d H', Same H0 H' → H' d = some (.xd [(f, v)]) → E (.ref (ga K x)) (some d) H'
theorem Rs.up {K : PySem.W.Frag} {x f : Str} {v : V} {H H1 : Hp} {E : XK} (h : Rs K x f v H E) (s : Same H H1) : Rs K x f v H1 E := fun d H' s' e => h d H' (s.trans s') e
theorem Rs.at {K : PySem.W.Frag} {x f : Str} {v : V} {H : Hp} {E : XK} (h : Rs K x f v H E) : ∀ d, H d = none → E (.ref (ga K x)) (some d) (upd H d (.xd [(f, v)])) := fun d hd => h d _ (same1 hd _) upd_same
def spKnown (K : PySem.W.Frag) : Sp := fun vs H Q E => ∃ (z : Str) (d : Addr) (kvs : List (Key × V)), vs = [.str z, .ref d] ∧ H d = some (.dK kvs) ∧ (∀ v, valV kvs (Sum.inr z) = some v → Q .non H) ∧ (valV kvs (Sum.inr z) = none → Rs K "UnknownName" "name" (.str z) H E)
def spSize (K : PySem.W.Frag) : Sp := fun vs H Q E => ∃ n m : Int, vs = [.int n, .int m] ∧ (n ≤ m → Q .non H) ∧ (m < n → Rs K "LimitExceeded" "count" (.int n) H E)
section
variable {P : Program} {w : World} {K : PySem.W.Frag} {mg : Str → Option Value} {base : Heap}
theorem cal_is_rope (T : TX P K mg) : Cal P w K mg base CX0 3 "is_rope" spIsRope := T.g_is_rope.cal (ps := ["value", "points"]) (fun f fd F => by
  refine F.ok c_is_rope (fun vs H Q E h => ?_) (fun cdv A outer s H vs Q E hr h => ?_)
  · obtain ⟨v, pa, pts, r, rfl, _⟩ := h
    rfl
  · obtain ⟨v, pa, pts, r, rfl, dv, hpa, hw, k⟩ := h
    obtain ⟨a, v1, v2, rfl, ha, d1, d2⟩ := dRp_inv dv
    have hr1 : Room 1 _ := hr.mono (by decide)
    refine ⟨_, pss_cons (ps_if (PW.pt (pw_or (pt_not (pt_val (pe_callB call_isi (by rfl) T.f_isinstance boot_isinstance (pa_cons (pv 0) (pa_cons (pe_bltn (v := .ty "tuple") (by rfl) T.f_tuple (by decide +kernel) rfl) pa_nil)))))
          (pw_or1 (pt_cmpR op_ne (pe_callB call_len_seq (by rfl) T.f_len PySem.boot_len (pa_cons (pv 0) pa_nil)) pe_int (nomark _))))) (pss_one (ps_ret pe_bl)) pss_nil)
      (pss_one (ps_ret (pe_and (pe_cal (cal_is_path T) hr1 pass0 (pa_cons (pe_ix ix_tup (pv 0) pe_int (fun _ _ => rfl)) (pa_cons (pv 1) pa_nil))) (pe_one (pe_cal (cal_is_fraction T) hr pass0 (pa_cons (pe_ix ix_tup (pv 0) pe_int (fun _ _ => rfl)) pa_nil)))))), ?_⟩
    refine ⟨_, rfl, _, _, _, _, true, rfl, .ty _, .base (.tup ha), kit_ty (by decide +kernel), _, rfl, iteF ?_⟩
    refine ⟨_, rfl, _, _, rfl, .inr (SqT.of ha), rfl, _, rfl, iteF ?_⟩
    refine ⟨_, rfl, _, _, _, _, rfl, rfl, SqT.of ha, rfl, _, rfl, v1, pa, pts, r.1.1, r.1.2, rfl, d1, hpa, hw, fun H1 s1 => ⟨_, rfl, ?_⟩⟩
    cases e : PathB pts r.1.1 r.1.2 with
    | false =>
      refine iteF ?_
      have := k H1 s1
      unfold RopeB at this
      rw [e] at this
      exact this
    | true =>
      refine iteT ?_
      refine ⟨_, rfl, _, _, _, _, rfl, rfl, SqT.of (s1 _ _ ha), rfl, v2, r.2, rfl, d2.up s1, ?_⟩
      have := k H1 s1
      unfold RopeB at this
      rw [e] at this
      exact this) (fun _ _ _ _ _ _ us hl => match us, hl with | [_, _], _ => rfl)
theorem cal_check_known (T : TX P K mg) : Cal P w K mg base (CX P w) 1 "check_known" (spKnown K) := T.g_check_known.cal (ps := ["name", "names"]) (fun f fd F => by
  refine F.okX c_check_known (fun vs H Q E h => ?_) (fun cdv A outer s H vs Q E hr h => ?_)
  · obtain ⟨z, d, kvs, rfl, _⟩ := h
    rfl
  · obtain ⟨z, d, kvs, rfl, hd, k1, k2⟩ := h
    obtain ⟨fI, XT⟩ := T.x_UnknownName
    have hu := hu_of hr
    refine ⟨_, pss_one (ps_if (PW.pt (pw_or (pt_not (pt_val (pe_callB call_isi (by rfl) T.f_isinstance boot_isinstance (pa_cons (pv 0) (pa_cons (pe_bltn (v := .ty "str") (by rfl) T.f_str (by decide +kernel) rfl) pa_nil)))))
          (pw_or1 (pt_cmp (pc_dnotin hu (pv 0) (pv 1)))))) (pss_one (ps_raiseX rfl PySem.F.excBase_LookupError XT xi_KeyError xn_name hr (takes_of rfl rfl rfl rfl) (pa_cons (pv 0) pa_nil))) pss_nil), ?_⟩
    refine ⟨_, rfl, _, _, _, _, true, rfl, .ty _, .base (.str z), kit_ty (by decide +kernel), _, rfl, iteF ?_⟩
    refine ⟨_, rfl, _, rfl, d, _, rfl, DGet.k (k := Sum.inr z) hd, _, rfl, ?_⟩
    cases e : valV kvs (Sum.inr z : Key) with
    | some v => exact iteF (k1 v e)
    | none => exact iteT ⟨_, rfl, _, rfl, fun dd hdd => (k2 e).at dd hdd⟩) (fun _ _ _ _ _ _ us hl => match us, hl with | [_, _], _ => rfl)
theorem cal_check_size (T : TX P K mg) : Cal P w K mg base (CX P w) 1 "check_size" (spSize K) := T.g_check_size.cal (ps := ["count", "most"]) (fun f fd F => by
  refine F.okX c_check_size (fun vs H Q E h => ?_) (fun cdv A outer s H vs Q E hr h => ?_)
  · obtain ⟨n, m, rfl, _⟩ := h
    rfl
  · obtain ⟨n, m, rfl, k1, k2⟩ := h
    obtain ⟨fI, XT⟩ := T.x_LimitExceeded
    refine ⟨_, pss_one (ps_if (pt_cmpR op_gt (pv 0) (pv 1) (nomark _)) (pss_one (ps_raiseX rfl PySem.F.excBase_OverflowError XT xi_OverflowError xn_count hr (takes_of rfl rfl rfl rfl) (pa_cons (pv 0) pa_nil))) pss_nil), ?_⟩
    refine ⟨_, rfl, _, rfl, _, _, rfl, rfl, _, rfl, ite2 (fun hc => ?_) (fun hc => ?_)⟩
    · have h1 : n > m := of_decide_eq_true hc
      exact ⟨_, rfl, _, rfl, fun dd hdd => (k2 h1).at dd hdd⟩
    · have h1 : ¬ n > m := fun z => hc (decide_eq_true z)
      exact k1 (by omega)) (fun _ _ _ _ _ _ us hl => match us, hl with | [_, _], _ => rfl)
end
end K7

set_option Elab.async false
set_option linter.all false
set_option maxRecDepth 100000
set_option maxHeartbeats 2000000
namespace K7
open PySem PySem.Spec PyProof.Rows L2
abbrev gPair (K : PySem.W.Frag) (i j : Nat) : TG := gTup K 2 (gCons (gName i) (gCons (gName j) gNil))
theorem kvR_get {α : Type} {enc : α → PyData} {H : Hp} {kvs : List (Key × V)} {m : List (Str × α)} (r : KvR enc H kvs m) {i : Nat} {x y : V} (e1 : (kvs[i]?.map fun kv => kV kv.1) = some x) (e2 : kvs[i]?.map Prod.snd = some y) : ∃ p, m[i]? = some p ∧ x = .str p.1 ∧ Dt H y (enc p.2) := by
  cases e : kvs[i]? with
  | none => rw [e] at e1; cases e1
  | some kv =>
    rw [e] at e1 e2
    cases e1
    cases e2
    obtain ⟨p, ep, h1, h2⟩ := r.get e
    exact ⟨p, ep, by show kV kv.1 = _; rw [h1]; rfl, h2⟩
section
variable {P : Program} {w : World} {K : PySem.W.Frag} {mg : Str → Option Value} {base : Heap}
theorem cal_are_hooks (T : TX P K mg) : Cal P w K mg base CX0 4 "are_hooks" (spDict NameB LdOk 1 8) := T.g_are_hooks.cal (ps := ["value"]) (fun f fd F => by
  refine F.ok c_are_hooks (fun vs H Q E h => ?_) (fun cdv A outer s H vs Q E hr h => ?_)
  · obtain ⟨d, m, rfl, _⟩ := h
    rfl
  · obtain ⟨d, m, rfl, ⟨kvs, hd, hm⟩, l1, l2, ok, k⟩ := h
    have nd := c_are_hooks.nd
    have hr2 : Room 2 _ := hr.mono (by decide)
    obtain ⟨t8, h8⟩ := T.i_MAX_HOOKS
    have hl : kvs.length = m.length := hm.length
    refine ⟨_, pss_cons (ps_if (PW.pt (pw_or (pt_not (pt_val (pe_callB call_isi (by rfl) T.f_isinstance boot_isinstance (pa_cons (pv 0) (pa_cons (pe_bltn (v := .ty "dict") (by rfl) T.f_dict (by decide +kernel) rfl) pa_nil)))))
          (pw_or1 (pt_not (pt_chain op_le op_le pe_int (pe_callB call_lenD (by rfl) T.f_len PySem.boot_len (pa_cons (pv 0) pa_nil)) (pe_glob (v := .int 8) rfl h8 ⟨_, rfl⟩)))))) (pss_one (ps_ret pe_bl)) pss_nil)
      (pss_one (ps_ret (pe_lock (pe_callB (cr_all rfl) (by rfl) T.f_all (by decide +kernel) (pa_cons (pe_lc (own := [("name", 1), ("load", 2)]) (g := gPair K 1 2) (tt := tYes) rfl nd (pi_items (pv 0)) (blkOk_by (own := [("name", 1), ("load", 2)]) (N := n_are_hooks) (sc := defScope s_are_hooks) (by decide +kernel))
        (fun _ _ _ _ _ => pg_tup rfl (pgs_cons (pg_name (i := 1) nd rfl (Or.inl rfl)) (pgs_cons (pg_name (i := 2) nd rfl (Or.inl rfl)) pgs_nil))) (fun _ _ _ _ _ => pts_nil)
        (fun _ _ _ _ _ => pe_and (pe_cal (cal_is_name T) hr2 pass0 (pa_cons (pv 1) pa_nil)) (pe_one (pe_cal (cal_is_load T) hr pass0 (pa_cons (pv 2) pa_nil))))) pa_nil))))), ?_⟩
    refine ⟨_, rfl, _, _, _, _, true, rfl, .ty _, .base (.dK hd), kit_ty (by decide +kernel), _, rfl, iteF ?_⟩
    refine ⟨_, rfl, d, kvs, rfl, hd, _, _, rfl, rfl, _, rfl, ?_⟩
    rw [decide_eq_true (show (1 : Int) ≤ ((kvs.length : Nat) : Int) by omega)]
    refine iteT ⟨_, _, rfl, rfl, _, rfl, ?_⟩
    rw [decide_eq_true (show ((kvs.length : Nat) : Int) ≤ 8 by omega)]
    refine iteF ?_
    refine ⟨d, _, hd, True.intro, fun od => ?_⟩
    refine ⟨_, rfl, d, od, kvs, rfl, upd_same, fun D hD => ?_⟩
    have nD : d ≠ D := fun z => by subst z; rw [upd_same] at hD; cases hD
    have hm1 : KvR dFr (upd H d (.frz od (.dK kvs))) kvs m := hm.mv (kd_upd hd rfl _)
    refine lc_bools (walk_items (d := d) (o := od) (kvs := kvs)) (List.replicate kvs.length true) hD (List.length_replicate ..) (by omega) (fun H2 b => b d _ nD upd_same) ?_ ?_
    · rintro i x H2 H3 hi hb ⟨t, x1, x2, rfl, ht, rfl, e1, e2⟩ Nx hN
      have s0 : Same H2 (upd H2 t (.tup [x1, x2])) := same1 ht _
      have hm2 := hm1.mv (kd_of ((hb.same hD).trans s0))
      obtain ⟨p, ep, rfl, dp⟩ := kvR_get hm2 e1 e2
      obtain ⟨ok1, ok2⟩ := ok p (List.mem_of_getElem? ep)
      refine ⟨t, _, rfl, SqT.of upd_same, rfl, _, _, rfl, _, _, rfl, rfl, rfl, ?_⟩
      refine ⟨_, rfl, p.1, rfl, Nat.le_trans (WordB.len ok1) (by decide), fun H4 s4 => ⟨_, rfl, ?_⟩⟩
      rw [ok1]
      refine iteT ?_
      refine ⟨_, rfl, x2, p.2, rfl, dp.up s4, ?_⟩
      rw [decide_eq_true ok2]
      exact hN _ _ (s0.trans s4) (by rw [List.getElem?_replicate, if_pos hi])
    · rintro H2 b2 e2
      refine ⟨D, _, rfl, SqL.of e2, ?_⟩
      refine ⟨b2 d _ nD upd_same, ?_⟩
      rw [all_replicate]
      refine k _ (Same.unlock hd fun b o nb e => ?_)
      have := b2 b o (ne_of_none (show (upd H d (.frz od (.dK kvs))) b = some o by rw [upd_ne nb]; exact e) hD) (by rw [upd_ne nb]; exact e)
      exact this) (fun _ _ _ _ _ _ us hl => match us, hl with | [_], _ => rfl)
theorem cal_are_anchors (T : TX P K mg) : Cal P w K mg base CX0 3 "are_anchors" (spDict GreatB FrOk 0 8) := T.g_are_anchors.cal (ps := ["value"]) (fun f fd F => by
  refine F.ok c_are_anchors (fun vs H Q E h => ?_) (fun cdv A outer s H vs Q E hr h => ?_)
  · obtain ⟨d, m, rfl, _⟩ := h
    rfl
  · obtain ⟨d, m, rfl, ⟨kvs, hd, hm⟩, l1, l2, ok, k⟩ := h
    have nd := c_are_anchors.nd
    have hr1 : Room 1 _ := hr.mono (by decide)
    obtain ⟨t8, h8⟩ := T.i_MAX_ANCHORS
    obtain ⟨tg, hg⟩ := T.s_GREAT
    have hl : kvs.length = m.length := hm.length
    refine ⟨_, pss_cons (ps_if (PW.pt (pw_or (pt_not (pt_val (pe_callB call_isi (by rfl) T.f_isinstance boot_isinstance (pa_cons (pv 0) (pa_cons (pe_bltn (v := .ty "dict") (by rfl) T.f_dict (by decide +kernel) rfl) pa_nil)))))
          (pw_or1 (pt_cmpR op_gt (pe_callB call_lenD (by rfl) T.f_len PySem.boot_len (pa_cons (pv 0) pa_nil)) (pe_glob (v := .int 8) rfl h8 ⟨_, rfl⟩) (nomark _))))) (pss_one (ps_ret pe_bl)) pss_nil)
      (pss_one (ps_ret (pe_lock (pe_callB (cr_all rfl) (by rfl) T.f_all (by decide +kernel) (pa_cons (pe_lc (own := [("name", 1), ("height", 2)]) (g := gPair K 1 2) (tt := tYes) rfl nd (pi_items (pv 0)) (blkOk_by (own := [("name", 1), ("height", 2)]) (N := n_are_anchors) (sc := defScope s_are_anchors) (by decide +kernel))
        (fun _ _ _ _ _ => pg_tup rfl (pgs_cons (pg_name (i := 1) nd rfl (Or.inl rfl)) (pgs_cons (pg_name (i := 2) nd rfl (Or.inl rfl)) pgs_nil))) (fun _ _ _ _ _ => pts_nil)
        (fun _ _ _ _ _ => pe_and (pe_cal (cal_is_word T) hr1 pass0 (pa_cons (pv 1) (pa_cons (pe_glob (v := .str GREAT) rfl hg ⟨_, rfl⟩) pa_nil))) (pe_one (pe_cal (cal_is_fraction T) hr pass0 (pa_cons (pv 2) pa_nil))))) pa_nil))))), ?_⟩
    refine ⟨_, rfl, _, _, _, _, true, rfl, .ty _, .base (.dK hd), kit_ty (by decide +kernel), _, rfl, iteF ?_⟩
    refine ⟨_, rfl, d, kvs, rfl, hd, _, _, rfl, rfl, _, rfl, ?_⟩
    rw [decide_eq_false (show ¬ ((kvs.length : Nat) : Int) > 8 by omega)]
    refine iteF ?_
    refine ⟨d, _, hd, True.intro, fun od => ?_⟩
    refine ⟨_, rfl, d, od, kvs, rfl, upd_same, fun D hD => ?_⟩
    have nD : d ≠ D := fun z => by subst z; rw [upd_same] at hD; cases hD
    have hm1 : KvR dFr (upd H d (.frz od (.dK kvs))) kvs m := hm.mv (kd_upd hd rfl _)
    refine lc_bools (walk_items (d := d) (o := od) (kvs := kvs)) (List.replicate kvs.length true) hD (List.length_replicate ..) (by omega) (fun H2 b => b d _ nD upd_same) ?_ ?_
    · rintro i x H2 H3 hi hb ⟨t, x1, x2, rfl, ht, rfl, e1, e2⟩ Nx hN
      have s0 : Same H2 (upd H2 t (.tup [x1, x2])) := same1 ht _
      have hm2 := hm1.mv (kd_of ((hb.same hD).trans s0))
      obtain ⟨p, ep, rfl, dp⟩ := kvR_get hm2 e1 e2
      obtain ⟨ok1, ok2⟩ := ok p (List.mem_of_getElem? ep)
      refine ⟨t, _, rfl, SqT.of upd_same, rfl, _, _, rfl, _, _, rfl, rfl, rfl, ?_⟩
      refine ⟨_, rfl, p.1, _, rfl, Nat.le_trans (WordB.len ok1) (by decide), fun H4 s4 => ⟨_, rfl, ?_⟩⟩
      have okw : WordB GREAT p.1 = true := ok1
      rw [okw]
      refine iteT ?_
      refine ⟨_, rfl, x2, p.2, rfl, dp.up s4, ?_⟩
      rw [decide_eq_true ok2]
      exact hN _ _ (s0.trans s4) (by rw [List.getElem?_replicate, if_pos hi])
    · rintro H2 b2 e2
      refine ⟨D, _, rfl, SqL.of e2, ?_⟩
      refine ⟨b2 d _ nD upd_same, ?_⟩
      rw [all_replicate]
      refine k _ (Same.unlock hd fun b o nb e => ?_)
      have := b2 b o (ne_of_none (show (upd H d (.frz od (.dK kvs))) b = some o by rw [upd_ne nb]; exact e) hD) (by rw [upd_ne nb]; exact e)
      exact this) (fun _ _ _ _ _ _ us hl => match us, hl with | [_], _ => rfl)
/-- the entry of a name -/
theorem put_fresh {ys : List Str} {f : Str → V} {y : Str} (h : ¬ y ∈ ys) (v : V) : putK (ys.map fun n => ((Sum.inr n : Key), f n)) (Sum.inr y : Key) v = ys.map (fun n => ((Sum.inr n : Key), f n)) ++ [((Sum.inr y : Key), v)] := by
  refine putK_new v ?_
  induction ys with
  | nil => rfl
  | cons n ys ih =>
    rw [List.map_cons, valV_neg (fun z => h (by rw [Sum.inr.inj z]; exact List.mem_cons_self ..))]
    exact ih fun z => h (List.mem_cons_of_mem _ z)
theorem valV_perm {kvs kvs' : List (Key × V)} (p : kvs'.Perm kvs) (n : (kvs.map (·.1)).Nodup) (k : Key) : valV kvs' k = valV kvs k := by
  induction p with
  | nil => rfl
  | @cons x l1 l2 p ih =>
    rw [List.map_cons, List.nodup_cons] at n
    by_cases e : x.1 = k
    · rw [valV_pos e, valV_pos e]
    · rw [valV_neg e, valV_neg e, ih n.2]
  | swap x y l =>
    rw [List.map_cons, List.map_cons, List.nodup_cons] at n
    have hxy : ¬ y.1 = x.1 := fun z => n.1 (by rw [← z]; exact List.mem_cons_self ..)
    by_cases e1 : x.1 = k
    · by_cases e2 : y.1 = k
      · exact absurd (e2.trans e1.symm) hxy
      · rw [valV_neg e2, valV_pos e1, valV_pos e1]
    · by_cases e2 : y.1 = k
      · rw [valV_pos e2, valV_neg e1, valV_pos e2]
      · rw [valV_neg e2, valV_neg e1, valV_neg e1, valV_neg e2]
  | trans p1 p2 i1 i2 => rw [i1 ((p2.map _).nodup_iff.mpr n), i2 n]
theorem val_map {ks : List Str} {kvs : List (Key × V)} (hk : kvs.map (·.1) = ks.map Sum.inr) (n : ks.Nodup) : ks.map (fun n => ((Sum.inr n : Key), (valV kvs (Sum.inr n : Key)).getD .non)) = kvs := by
  induction ks generalizing kvs with
  | nil =>
    cases kvs with
    | nil => rfl
    | cons p r => cases hk
  | cons k ks ih =>
    cases kvs with
    | nil => cases hk
    | cons p r =>
      obtain ⟨pk, pv⟩ := p
      rw [List.map_cons, List.map_cons] at hk
      injection hk with h1 h2
      rw [List.nodup_cons] at n
      show ((Sum.inr k : Key), (valV ((pk, pv) :: r) (Sum.inr k : Key)).getD .non) :: _ = _
      rw [valV_pos h1, show pk = (Sum.inr k : Key) from h1]
      congr 1
      rw [← ih h2 n.2]
      refine List.map_congr_left fun x hx => ?_
      rw [ih h2 n.2, valV_neg (fun z => n.1 (by rw [Sum.inr.inj z]; exact hx))]
theorem cal_ordered (T : TX P K mg) : Cal P w K mg base CX0 1 "ordered" spOrdered := T.g_ordered.cal (ps := ["parts"]) (fun f fd F => by
  refine F.ok c_ordered (fun vs H Q E h => ?_) (fun cdv A outer s H vs Q E hr h => ?_)
  · obtain ⟨d, kvs, ks, rfl, _⟩ := h
    rfl
  · obtain ⟨d, kvs, ks, rfl, hd, hk, hnd, hlt, k⟩ := h
    have nd := c_ordered.nd
    have hu := hu_of hr
    refine ⟨_, pss_one (ps_ret (pe_dc (own := [("name", 1)]) (g := gName 1) (tt := tYes) rfl nd (pi_list (pe_callB (call_sortedD rfl) (by rfl) T.f_sorted (by decide +kernel) (pa_cons (pv 0) pa_nil))) (blkOk_by (own := [("name", 1)]) (N := n_ordered) (sc := defScope s_ordered) (by decide +kernel))
      (fun _ _ _ _ _ => pg_name (i := 1) nd rfl (Or.inl rfl)) (fun _ _ _ _ _ => pts_nil) (fun _ _ _ _ _ => pv 1) (fun _ _ _ _ _ => pe_dget hu (pv 0) (pv 1) (fun _ _ => rfl)))), ?_⟩
    refine ⟨_, rfl, d, kvs, ks, rfl, .inl hd, hk, hlt, fun ys p hperm hsort hp => ?_⟩
    have s1 : Same H _ := same1 hp (.lst (ys.map V.str))
    refine ⟨p, rfl, ⟨_, SqL.of upd_same⟩, fun D hD => ?_⟩
    have npD : p ≠ D := fun z => by subst z; rw [upd_same] at hD; cases hD
    have ndD : d ≠ D := ne_of_none (s1 _ _ hd) hD
    have hD0 : H D = none := s1.free hD
    have fv : Str → V := fun n => (valV kvs (Sum.inr n : Key)).getD .non
    have ynd : ys.Nodup := hperm.nodup_iff.mpr hnd
    have yl : ys.length = ks.length := hperm.length_eq
    refine dc_it (walk_list (K := K) (a := p) (xs := ys.map V.str)) (fun i H2 => But D (upd H p (.lst (ys.map V.str))) H2 ∧ H2 D = some (.dK ((ys.take i).map fun n => ((Sum.inr n : Key), (valV kvs (Sum.inr n : Key)).getD .non)))) ⟨(But.refl _ _).put _, upd_same⟩ (fun i H2 _ h => SqL.of (h.1 p _ npD upd_same)) ?_ ?_
    · rintro i x H2 H3 hi ⟨b, e⟩ ⟨rfl, ex⟩
      rw [List.getElem?_map] at ex
      obtain ⟨y, ey, rfl⟩ := Option.map_eq_some_iff.mp ex
      have hy : y ∈ ks := hperm.mem_iff.mp (List.mem_of_getElem? ey)
      have hyk : (Sum.inr y : Key) ∈ kvs.map (·.1) := by rw [hk]; exact List.mem_map_of_mem hy
      obtain ⟨v, ev⟩ : ∃ v, valV kvs (Sum.inr y : Key) = some v := by
        cases q : valV kvs (Sum.inr y : Key) with
        | some v => exact ⟨v, rfl⟩
        | none => exact absurd hyk (valV_not q)
      refine ⟨rfl, _, rfl, _, rfl, _, rfl, d, v, rfl, ?_, _, (Sum.inr y : Key), rfl, e, ?_, (b.put _), ?_⟩
      · have := DGet.k (k := (Sum.inr y : Key)) (b d _ ndD (s1 _ _ hd))
        rw [ev] at this
        exact this
      · rw [List.length_map, List.length_take]
        exact small1000 (by omega)
      · rw [upd_same]
        congr 2
        rw [put_fresh ?_, List.take_add_one, ey, List.map_append]
        · show _ ++ [((Sum.inr y : Key), v)] = _ ++ [((Sum.inr y : Key), (valV kvs (Sum.inr y : Key)).getD .non)]
          rw [ev]
          rfl
        · intro hm
          obtain ⟨j, hj⟩ := List.getElem?_of_mem hm
          rw [List.getElem?_take] at hj
          split at hj
          · have := nd_ix ynd hj ey
            omega
          · cases hj
    · rintro H2 ⟨b, e⟩
      rw [List.length_map, List.take_length] at e
      have hperm2 : (ys.map fun n => ((Sum.inr n : Key), (valV kvs (Sum.inr n : Key)).getD .non)).Perm kvs := by
        have := hperm.map fun n => ((Sum.inr n : Key), (valV kvs (Sum.inr n : Key)).getD .non)
        rw [val_map hk hnd] at this
        exact this
      refine k D _ H2 (s1.trans (b.same hD)) hD0 e hperm2 ⟨ys, ?_, hperm, hsort⟩
      rw [List.map_map]
      rfl) (fun _ _ _ _ _ _ us hl => match us, hl with | [_], _ => rfl)
end
end K7

set_option Elab.async false
set_option linter.all false
set_option maxRecDepth 100000
set_option maxHeartbeats 2000000
/-! A work: its points, its making. -/
namespace K7
open PySem PySem.Spec PyProof.Rows L2
/-! ### name = {k: v for ..} on one line -/
theorem ps_setDc {X : Cx} {i : Nat} {y : Str} {py : Pos} {kx vx tg iter : Expr} {ifs : List Expr} {scope : Scope} {own : List (Str × Nat)} {pos spos : Pos} {wi : TI} {g : TG} {tt : TT} {tk tv : TE} (hc : X.calm = true) (hN : X.N.Nodup) (hy : X.N[i]? = some y) (hyl : X.env.scope.names.lookup y = some .local)
    (hsw : swapsWith (.DictComp kx vx [⟨tg, iter, ifs, 0⟩] scope pos) (some (.Name y py)) spos.line X.env = pure true) (hi : PI X tg iter wi) (ok : BlkOk X.N X.env.scope scope own)
    (hg : ∀ (s : Shared) (H : Hp) (C : Addr) (cl : List (Str × Addr)) (fp : List Addr), PG (X.blk s H scope (compEnvC scope cl C X.env) fp) tg g) (ht : ∀ (s : Shared) (H : Hp) (C : Addr) (cl : List (Str × Addr)) (fp : List Addr), PTs (X.blk s H scope (compEnvC scope cl C X.env) fp) ifs tt)
    (hk : ∀ (s : Shared) (H : Hp) (C : Addr) (cl : List (Str × Addr)) (fp : List Addr), PE (X.blk s H scope (compEnvC scope cl C X.env) fp) kx tk)
    (he : ∀ (s : Shared) (H : Hp) (C : Addr) (cl : List (Str × Addr)) (fp : List Addr), PE (X.blk s H scope (compEnvC scope cl C X.env) fp) vx tv) (hs : ∀ x, foldedSetIterable iter X.env x = pure x := by intro _; rfl) :
    PS X (.Assign [.Name y py] (.DictComp kx vx [⟨tg, iter, ifs, 0⟩] scope pos) spos) (tAsg (tDc wi g tt tk tv (own.map (·.2))) (gName i)) := by
  refine ⟨fun pins s σ H D I h => ?_⟩
  rw [exec_Assign_Name_used _ _ _ _ hsw]
  refine wpAny_bind (wpAny_standAt (wpAny_bind ?_))
  show wpAny _ X.A (do let _ ← comprehension (.DictComp kx vx [⟨tg, iter, ifs, 0⟩] scope pos) scope X.env (firstIterPos [⟨tg, iter, ifs, 0⟩] pos) newDict false (eval iter X.env) (some (assign (.Name y py) X.env))) _ _ s
  have h : tDc wi g tt tk tv (own.map (·.2)) σ H (fun x H1 => gName i x σ H1 D.nx) := h
  refine wpAny_bind (thn (dc_core (Qf := fun _ s' => SP X pins D .next s') hc hN I hi ok hg ht hk he hs h fun L C s' m H' I' q hn f => ?_) fun _ s' hq => wpAny_pure (wpAny_pure hq))
  show wpAny _ _ (assign (.Name y py) X.env (.ref L)) _ _ _
  refine wpAny_assign_Name (store_ok2 (v := V.ref L) I' hN hy (.inl hyl) rfl (fun s2 I2 ⟨a, sb, ha⟩ => ?_) (.inr hyl))
  obtain ⟨f0, f1, f2, f3, f4, f5⟩ := f
  have haC : C ≠ a := by
    rcases ha with z | z
    · rw [z]; exact f1
    · exact fun e => f4 y a z e.symm
  refine ⟨m, hn.sameBut sb haC, fun h3 sb3 => ?_⟩
  exact ⟨_, H', I2.turned (t' := s2.toks) (fun b o hb e => (sb3.2 b hb).trans e) f0 f1 f3 f4 f5, q⟩
theorem sw_trueD {kx vx : Expr} {gs : List Comprehension} {scope : Scope} {pos py : Pos} {y : Str} {l : Nat} {env : Env} (hk : env.scope.kind = .function) (hy : env.scope.names.lookup y = some .local) (hl : (py.line == pos.line) = true)
    (ha : (scope.names.any fun (n, k) => n == y && (k == .local || k == .cell)) = false) : swapsWith (.DictComp kx vx gs scope pos) (some (.Name y py)) l env = pure true := by
  have ky : env.kindOf y = some .local := hy
  have hb : env.blockKind = .function := by unfold Env.blockKind; rw [hk]; rfl
  unfold swapsWith
  simp only [hb, ky, ha, Expr.pos, hl]
  rfl
/-! ### the data -/
abbrev Rp := (Bool × List Str) × Fr
structure Gv where
  loads : List (Str × Fr)
  ropes : List (Str × Rp)
  fixed : List (Str × Fr)
def keys {α : Type} (m : List (Str × α)) : List Str := m.map (·.1)
def pts (g : Gv) : List Str := keys g.loads ++ keys g.fixed
structure GvOk (g : Gv) : Prop where
  nl : (keys g.loads).Nodup
  nr : (keys g.ropes).Nodup
  nf : (keys g.fixed).Nodup
  l1 : 1 ≤ g.loads.length
  l8 : g.loads.length ≤ 8
  f8 : g.fixed.length ≤ 8
  r10 : g.ropes.length ≤ 10
  okl : ∀ p ∈ g.loads, NameB p.1 = true ∧ LdOk p.2
  okf : ∀ p ∈ g.fixed, GreatB p.1 = true ∧ FrOk p.2
  okr : ∀ p ∈ g.ropes, NameB p.1 = true ∧ RopeB (pts g) p.2 = true
def workFs (l h r : Addr) : List (Str × V) := [("own_loads", .ref l), ("own_heights", .ref h), ("own_ropes", .ref r)]
/-- a Work of g stands at v -/
def WkAt (K : PySem.W.Frag) (H : Hp) (v : V) (g : Gv) : Prop := ∃ (a dx l h r : Addr) (ml mh : List (Str × Fr)) (mr : List (Str × Rp)), v = .ref a ∧ H a = some (.ins (ga K "Work") dx (workFs l h r)) ∧ DA dFr H l ml ∧ DA dFr H h mh ∧ DA dRp H r mr ∧
  ml.Perm g.loads ∧ mh.Perm g.fixed ∧ mr.Perm g.ropes
theorem lk3n {x a b c : Str} {u v w : V} (h1 : (x == a) = false) (h2 : (x == b) = false) (h3 : (x == c) = false) : List.lookup x [(a, u), (b, v), (c, w)] = none := by
  rw [List.lookup_cons, h1, List.lookup_cons, h2, List.lookup_cons, h3]
  rfl
theorem lk3a {x b c : Str} {u v w : V} : List.lookup x [(x, u), (b, v), (c, w)] = some u := by
  rw [List.lookup_cons, beq_self_eq_true]
theorem lk3b {x a c : Str} {u v w : V} (h1 : (x == a) = false) : List.lookup x [(a, u), (x, v), (c, w)] = some v := by
  rw [List.lookup_cons, h1, List.lookup_cons, beq_self_eq_true]
theorem lk3c {x a b : Str} {u v w : V} (h1 : (x == a) = false) (h2 : (x == b) = false) : List.lookup x [(a, u), (b, v), (x, w)] = some w := by
  rw [List.lookup_cons, h1, List.lookup_cons, h2, List.lookup_cons, beq_self_eq_true]
theorem work_full {C dx l h r : Addr} : fullO (.ins C dx (workFs l h r)) = true := by
  show (List.lookup ("own_entries" : Str) (workFs l h r)).isNone = true
  rw [show List.lookup ("own_entries" : Str) (workFs l h r) = none from lk3n (by decide +kernel) (by decide +kernel) (by decide +kernel)]
  rfl
theorem wL (l h r : Addr) : (workFs l h r).lookup ("own_loads" : Str) = some (.ref l) := lk3a
theorem wH (l h r : Addr) : (workFs l h r).lookup ("own_heights" : Str) = some (.ref h) := lk3b (by decide +kernel)
theorem wR (l h r : Addr) : (workFs l h r).lookup ("own_ropes" : Str) = some (.ref r) := lk3c (by decide +kernel) (by decide +kernel)
theorem w2L (l h : Addr) : List.lookup ("own_loads" : Str) ([("own_loads", .ref l), ("own_heights", .ref h)] : List (Str × V)) = some (.ref l) := by
  rw [List.lookup_cons, beq_self_eq_true]
theorem w2H (l h : Addr) : List.lookup ("own_heights" : Str) ([("own_loads", .ref l), ("own_heights", .ref h)] : List (Str × V)) = some (.ref h) := by
  rw [List.lookup_cons, show (("own_heights" : Str) == "own_loads") = false by decide +kernel, List.lookup_cons, beq_self_eq_true]
theorem DA.upF {α : Type} {enc : α → PyData} {H H' : Hp} {a : Addr} {m : List (Str × α)} (h : DA enc H a m) (k : Kd fullO H H') : DA enc H' a m := h.mv k.mid
/-- a new one: its dicts were not in H0 -/
def WkN (K : PySem.W.Frag) (H0 H : Hp) (v : V) (g : Gv) : Prop := ∃ (a dx l h r : Addr) (ml mh : List (Str × Fr)) (mr : List (Str × Rp)), v = .ref a ∧ H a = some (.ins (ga K "Work") dx (workFs l h r)) ∧ DA dFr H l ml ∧ DA dFr H h mh ∧ DA dRp H r mr ∧
  ml.Perm g.loads ∧ mh.Perm g.fixed ∧ mr.Perm g.ropes ∧ H0 l = none ∧ H0 h = none ∧ H0 r = none
theorem WkN.at {K : PySem.W.Frag} {H0 H : Hp} {v : V} {g : Gv} (h : WkN K H0 H v g) : WkAt K H v g := by
  obtain ⟨a, dx, l, hh, r, ml, mh, mr, e, ea, h1, h2, h3, p1, p2, p3, _⟩ := h
  exact ⟨a, dx, l, hh, r, ml, mh, mr, e, ea, h1, h2, h3, p1, p2, p3⟩
theorem WkAt.mv {K : PySem.W.Frag} {H H' : Hp} {v : V} {g : Gv} (h : WkAt K H v g) (k : Kd fullO H H') : WkAt K H' v g := by
  obtain ⟨a, dx, l, hh, r, ml, mh, mr, e, ea, h1, h2, h3, p⟩ := h
  exact ⟨a, dx, l, hh, r, ml, mh, mr, e, k _ _ ea work_full, h1.upF k, h2.upF k, h3.upF k, p⟩
theorem WkAt.up {K : PySem.W.Frag} {H H' : Hp} {v : V} {g : Gv} (h : WkAt K H v g) (k : Same H H') : WkAt K H' v g := h.mv (kd_of k)
theorem wf1 (l : Addr) : putF "own_loads" (.ref l) ([] : List (Str × V)) = ([("own_loads", .ref l)] : List (Str × V)) := rfl
theorem ne12 : ¬ (("own_loads" : Str) = "own_heights") := by decide +kernel
theorem ne13 : ¬ (("own_loads" : Str) = "own_ropes") := by decide +kernel
theorem ne23 : ¬ (("own_heights" : Str) = "own_ropes") := by decide +kernel
theorem wf2 (l h : Addr) : putF "own_heights" (.ref h) ([("own_loads", .ref l)] : List (Str × V)) = ([("own_loads", .ref l), ("own_heights", .ref h)] : List (Str × V)) := by
  show (if ("own_loads" : Str) = "own_heights" then _ else (("own_loads" : Str), V.ref l) :: putF "own_heights" (V.ref h) []) = _
  rw [if_neg ne12]
  rfl
theorem wf3 (l h r : Addr) : putF "own_ropes" (.ref r) ([("own_loads", .ref l), ("own_heights", .ref h)] : List (Str × V)) = workFs l h r := by
  show (if ("own_loads" : Str) = "own_ropes" then _ else (("own_loads" : Str), V.ref l) :: (if ("own_heights" : Str) = "own_ropes" then _ else (("own_heights" : Str), V.ref h) :: putF "own_ropes" (V.ref r) [])) = _
  rw [if_neg ne13, if_neg ne23]
  rfl
/-! ### promises -/
def spPoints (K : PySem.W.Frag) : Sp := fun vs H Q _ => ∃ (a dx l h : Addr) (fs : List (Str × V)) (kl kh : List (Key × V)) (nl nh : List Str), vs = [.ref a] ∧ H a = some (.ins (ga K "Work") dx fs) ∧ fs.lookup ("own_loads" : Str) = some (.ref l) ∧ fs.lookup ("own_heights" : Str) = some (.ref h) ∧
  H l = some (.dK kl) ∧ kl.map (·.1) = nl.map Sum.inr ∧ H h = some (.dK kh) ∧ kh.map (·.1) = nh.map Sum.inr ∧ nl.length ≤ 50 ∧ nh.length ≤ 50 ∧ ∀ p H', Same H H' → H p = none → H' p = some (.lst ((nl ++ nh).map V.str)) → Q (.ref p) H'
def spInitW (K : PySem.W.Frag) : Sp := fun vs H Q _ => ∃ (p dx dl dr dh : Addr) (g : Gv), vs = [.ref p, .ref dl, .ref dr, .ref dh] ∧ H p = some (.ins (ga K "Work") dx []) ∧ DA dFr H dl g.loads ∧ DA dRp H dr g.ropes ∧ DA dFr H dh g.fixed ∧ GvOk g ∧
  ∀ H', But p H H' → WkN K H H' (.ref p) g → Q .non H'
theorem keys_kV {ks : List (Key × V)} {ns : List Str} (h : ks.map (·.1) = ns.map Sum.inr) : ks.map (fun kv => kV kv.1) = ns.map V.str := by
  have : ks.map (fun kv => kV kv.1) = (ks.map (·.1)).map kV := by rw [List.map_map]; rfl
  rw [this, h, List.map_map]
  rfl
/-- what is asked of the pieces that the pieces' own order leaves -/
theorem al_perm {α β : Type} {R : α → β → Prop} {as as' : List α} (p : as'.Perm as) : ∀ {bs : List β}, Al R as bs → ∃ bs', bs'.Perm bs ∧ Al R as' bs' := by
  induction p with
  | nil => intro bs h; exact ⟨bs, .refl _, h⟩
  | cons x p ih =>
    intro bs h
    cases h with
    | cons h1 t =>
      obtain ⟨bs', q, r⟩ := ih t
      exact ⟨_ :: bs', q.cons _, .cons h1 r⟩
  | swap x y l =>
    intro bs h
    cases h with
    | cons h1 t =>
      cases t with
      | cons h2 t => exact ⟨_ :: _ :: _, .swap _ _ _, .cons h2 (.cons h1 t)⟩
  | trans p1 p2 i1 i2 =>
    intro bs h
    obtain ⟨b2, q2, r2⟩ := i2 h
    obtain ⟨b1, q1, r1⟩ := i1 r2
    exact ⟨b1, q1.trans q2, r1⟩
theorem pathB_congr {p1 p2 : List Str} (h : ∀ x, x ∈ p1 ↔ x ∈ p2) (b : Bool) (ws : List Str) : PathB p1 b ws = PathB p2 b ws := by
  unfold PathB
  have e : (fun x => decide (x ∈ p1)) = fun x => decide (x ∈ p2) := funext fun x => decide_eq_decide.mpr (h x)
  rw [e]
theorem ropeB_congr {p1 p2 : List Str} (h : ∀ x, x ∈ p1 ↔ x ∈ p2) (r : Rp) : RopeB p1 r = RopeB p2 r := by
  unfold RopeB
  rw [pathB_congr h]
theorem pathB_len {p : List Str} {b : Bool} {ws : List Str} (h : PathB p b ws = true) : ws.length ≤ 23 := by
  unfold PathB at h
  simp only [Bool.and_eq_true, decide_eq_true_eq] at h
  exact h.2.2.2.1
theorem ropeB_len {p : List Str} {r : Rp} (h : RopeB p r = true) : r.1.2.length ≤ 100 := by
  unfold RopeB at h
  rw [Bool.and_eq_true] at h
  exact Nat.le_trans (pathB_len h.1) (by decide)
theorem keys_perm {α : Type} {m m' : List (Str × α)} (h : m'.Perm m) {x : Str} : x ∈ keys m' ↔ x ∈ keys m := (h.map _).mem_iff
section
variable {P : Program} {w : World} {K : PySem.W.Frag} {mg : Str → Option Value} {base : Heap}
theorem cal_points (T : TX P K mg) : CalM P w K mg base CX0 1 (ga K "Work") "points" (spPoints K) := T.m_Work_points.cal (ps := ["self"]) (fun f fd F => by
  refine F.ok c_Work_points (fun vs H Q E h => ?_) (fun cdv A outer s H vs Q E hr h => ?_)
  · obtain ⟨a, dx, l, h, fs, kl, kh, nl, nh, rfl, _⟩ := h
    rfl
  · obtain ⟨a, dx, l, h, fs, kl, kh, nl, nh, rfl, ha, fl, fh, hl, el, hh, eh, n1, n2, k⟩ := h
    refine ⟨_, pss_one (ps_ret (pe_op op_cat (pe_callTy (call_listD rfl) (by rfl) T.f_list (by decide +kernel) (pa_cons (pe_fld (pv 0) rfl) pa_nil)) (pe_callTy (call_listD rfl) (by rfl) T.f_list (by decide +kernel) (pa_cons (pe_fld (pv 0) rfl) pa_nil)))), ?_⟩
    refine ⟨_, rfl, a, _, dx, fs, _, rfl, ha, T.c_W, T.a_own_loads, fl, l, kl, rfl, .inl hl, fun p1 hp1 => ?_⟩
    rw [keys_kV el]
    have s1 : Same H _ := same1 hp1 (.lst (nl.map V.str))
    refine ⟨_, rfl, a, _, dx, fs, _, rfl, s1 _ _ ha, T.c_W, T.a_own_heights, fh, h, kh, rfl, .inl (s1 _ _ hh), fun p2 hp2 => ?_⟩
    rw [keys_kV eh]
    have s2 := same1 hp2 (.lst (nh.map V.str))
    refine ⟨p1, p2, _, _, rfl, rfl, s2 _ _ upd_same, upd_same, ?_, fun p3 hp3 => ?_⟩
    · rw [List.length_map, List.length_map]
      exact Nat.le_of_lt (small100 (by omega))
    · refine k p3 _ (same_new (s1.trans s2) hp3 _) ((s1.trans s2).free hp3) ?_
      rw [upd_same, List.map_append]) (fun _ _ _ _ _ _ us hl => match us, hl with | [_], _ => rfl)
end
end K7

set_option Elab.async false
set_option linter.all false
set_option maxRecDepth 100000
set_option maxHeartbeats 2000000
/-! Work(..). -/
namespace K7
open PySem PySem.Spec PyProof.Rows L2
theorem w2P (l h : Addr) : List.lookup ("points" : Str) ([("own_loads", .ref l), ("own_heights", .ref h)] : List (Str × V)) = none := by
  rw [List.lookup_cons, show (("points" : Str) == "own_loads") = false by decide +kernel, List.lookup_cons, show (("points" : Str) == "own_heights") = false by decide +kernel]
  rfl
section
variable {P : Program} {w : World} {K : PySem.W.Frag} {mg : Str → Option Value} {base : Heap}
theorem ok_initW (T : TX P K mg) {f : Addr} {fd : FuncData} (F : Fun K "__init__" "Work.__init__" s_Work_init f fd) : FnOk P w K mg base CX0 5 f fd ["self", "hooks", "ropes", "anchors"] (spInitW K) := by
  refine F.ok c_Work_init (fun vs H Q E h => ?_) (fun cdv A outer s H vs Q E hr h => ?_)
  · obtain ⟨p, dx, dl, dr, dh, g, rfl, _⟩ := h
    rfl
  · obtain ⟨p, dx, dl, dr, dh, g, rfl, hp, ⟨kl, hl, al⟩, ⟨kr, hrp, ar⟩, ⟨kh, hh, ah⟩, G, k⟩ := h
    have nd := c_Work_init.nd
    have hu := hu_of hr
    have hr1 : Room 1 _ := hr.mono (by decide)
    have hr2 : Room 2 _ := hr.mono (by decide)
    have hr3 : Room 3 _ := hr.mono (by decide)
    obtain ⟨t10, h10⟩ := T.i_MAX_ROPES
    refine ⟨_, pss_cons (ps_if (pt_not (pt_val (pe_cal (cal_are_hooks T) hr pass0 (pa_cons (pv 1) pa_nil)))) (pss_one ps_never) pss_nil)
      (pss_cons (ps_if (PW.pt (pw_and (pt_cmp (pc_notN (pv 3))) (pw_and1 (pt_not (pt_val (pe_cal (cal_are_anchors T) hr3 pass0 (pa_cons (pv 3) pa_nil))))))) (pss_one ps_never) pss_nil)
      (pss_cons (ps_if (PW.pt (pw_or (pt_not (pt_val (pe_callB call_isi (by rfl) T.f_isinstance boot_isinstance (pa_cons (pv 2) (pa_cons (pe_bltn (v := .ty "dict") (by rfl) T.f_dict (by decide +kernel) rfl) pa_nil)))))
          (pw_or (pt_cmpR op_gt (pe_callB call_lenD (by rfl) T.f_len PySem.boot_len (pa_cons (pv 2) pa_nil)) (pe_glob (v := .int 10) rfl h10 ⟨_, rfl⟩) (nomark _))
          (pw_or1 (pt_not (pt_val (pe_lock (pe_callB (cr_all rfl) (by rfl) T.f_all (by decide +kernel) (pa_cons (pe_lc (own := [("name", 4)]) (g := gName 4) (tt := tYes) rfl nd (pi_keys (pv 2)) (blkOk_by (own := [("name", 4)]) (N := n_Work_init) (sc := defScope s_Work_init) (by decide +kernel))
            (fun _ _ _ _ _ => pg_name (i := 4) nd rfl (Or.inl rfl)) (fun _ _ _ _ _ => pts_nil) (fun _ _ _ _ _ => pe_cal (cal_is_name T) hr2 pass0 (pa_cons (pv 4) pa_nil))) pa_nil))))))))) (pss_one ps_never) pss_nil)
      (pss_cons (ps_fld (pv 0) (pe_cal (cal_ordered T) hr1 pass0 (pa_cons (pv 1) pa_nil)) rfl)
      (pss_cons (ps_fld (pv 0) (pe_cal (cal_ordered T) hr1 pass0 (pa_cons (pe_ifExp (pt_cmp (pc_notN (pv 3))) (pv 3) pe_dnewK) pa_nil)) rfl)
      (pss_cons (ps_for PassesOwn.never rfl (pi_list (pe_callB (call_sortedD rfl) (by rfl) T.f_sorted (by decide +kernel) (pa_cons (pv 2) pa_nil))) (pg_name (i := 4) nd rfl (Or.inl rfl))
        (pss_one (ps_if (pt_not (pt_val (pe_cal (cal_is_rope T) hr3 pass0 (pa_cons (pe_dget hu (pv 2) (pv 4) (fun _ _ => rfl)) (pa_cons (pe_calM0 (pv 0) T.c_W (cal_points T) hr1 pass0) pa_nil))))) (pss_one ps_never) pss_nil)))
      (pss_one (ps_fld (pv 0) (pe_cal (cal_ordered T) hr1 pass0 (pa_cons (pv 2) pa_nil)) rfl))))))), ?_⟩
    have npl : p ≠ dl := ne_of hp hl (by intro z; cases z)
    have npr : p ≠ dr := ne_of hp hrp (by intro z; cases z)
    have nph : p ≠ dh := ne_of hp hh (by intro z; cases z)
    -- hooks, anchors, ropes are what they should be
    refine ⟨_, rfl, dl, g.loads, rfl, ⟨kl, hl, al⟩, G.l1, G.l8, G.okl, fun H1 s1 => ⟨_, rfl, iteF ?_⟩⟩
    refine ⟨_, rfl, _, rfl, iteT ?_⟩
    refine ⟨_, rfl, dh, g.fixed, rfl, ⟨kh, s1 _ _ hh, ah.mv (kd_of s1)⟩, Nat.zero_le _, G.f8, G.okf, fun H2 s2 => ⟨_, rfl, iteF ?_⟩⟩
    have s12 := s1.trans s2
    have hr2' : H2 dr = some (.dK kr) := s12 _ _ hrp
    have lr : kr.length = g.ropes.length := ar.length
    refine ⟨_, rfl, _, _, _, _, true, rfl, .ty _, .base (.dK hr2'), kit_ty (by decide +kernel), _, rfl, iteF ?_⟩
    refine ⟨_, rfl, dr, kr, rfl, hr2', _, _, rfl, rfl, _, rfl, ?_⟩
    rw [decide_eq_false (show ¬ ((kr.length : Nat) : Int) > 10 by have := G.r10; omega)]
    refine iteF ?_
    refine ⟨dr, _, hr2', True.intro, fun od => ?_⟩
    refine ⟨_, rfl, dr, od, rfl, .inl ⟨kr, upd_same, fun D hD => ?_⟩⟩
    have nD : dr ≠ D := fun z => by subst z; rw [upd_same] at hD; cases hD
    have kk := ar.keys
    refine lc_bools (walk_keys (d := dr) (o := od) (kvs := kr)) (List.replicate kr.length true) hD (List.length_replicate ..) (by have := G.r10; omega) (fun H3 b => b dr _ nD upd_same) ?_ ?_
    · rintro i x H3 H4 hi hb ⟨rfl, ky, v, e1, rfl⟩ Nx hN
      obtain ⟨pr, ep, e2, _⟩ := ar.get e1
      have okn := (G.okr pr (List.mem_of_getElem? ep)).1
      have e3 : ky = Sum.inr pr.1 := e2
      subst e3
      refine ⟨rfl, _, rfl, pr.1, rfl, Nat.le_trans (WordB.len okn) (by decide), fun H5 s5 => ?_⟩
      rw [okn]
      exact hN _ _ s5 (by rw [List.getElem?_replicate, if_pos hi])
    rintro H3 b3 e3
    refine ⟨D, _, rfl, SqL.of e3, ?_⟩
    refine ⟨b3 dr _ nD upd_same, ?_⟩
    rw [all_replicate]
    refine ⟨_, rfl, iteF ?_⟩
    have s3 : Same H (upd H3 dr (.dK kr)) := s12.trans (Same.unlock hr2' fun b o nb e => b3 b o (ne_of_none (show (upd H2 dr (.frz od (.dK kr))) b = some o by rw [upd_ne nb]; exact e) hD) (by rw [upd_ne nb]; exact e))
    generalize upd H3 dr (.dK kr) = HA at s3
    clear b3 e3 hr2' s1 s2 s12
    -- self.own_loads
    refine ⟨_, rfl, dl, kl, keys g.loads, rfl, s3 _ _ hl, al.keys, G.nl, by have := G.l8; show (g.loads.map _).length < 64; rw [List.length_map]; omega, fun q1 k1 HB sB nB eB pB oB => ?_⟩
    obtain ⟨y1, ky1, _⟩ := oB
    refine ⟨_, rfl, p, _, dx, _, rfl, (s3.trans sB) _ _ hp, T.c_W, T.a_own_loads, (by show 0 < 1000; decide), ?_⟩
    rw [wf1]
    have np1 : p ≠ q1 := ne_of_none (s3 _ _ hp) nB
    have bC : But p H (upd HB p (.ins (ga K "Work") dx [("own_loads", .ref q1)])) := (but_of (s3.trans sB)).put _
    have eC1 : (upd HB p (.ins (ga K "Work") dx [("own_loads", .ref q1)])) q1 = some (.dK k1) := by rw [upd_ne np1.symm]; exact eB
    have eCp : (upd HB p (.ins (ga K "Work") dx [("own_loads", .ref q1)])) p = some (.ins (ga K "Work") dx [("own_loads", .ref q1)]) := upd_same
    have mC : Kd flatO H (upd HB p (.ins (ga K "Work") dx [("own_loads", .ref q1)])) := kd_but1 bC hp rfl
    generalize upd HB p (.ins (ga K "Work") dx [("own_loads", .ref q1)]) = HC at bC eC1 eCp mC
    have fr1 : H q1 = none := s3.free nB
    clear nB eB sB
    -- self.own_heights
    refine ⟨_, rfl, _, rfl, iteT ?_⟩
    refine ⟨_, rfl, dh, kh, keys g.fixed, rfl, bC _ _ nph.symm hh, ah.keys, G.nf, by have := G.f8; show (g.fixed.map _).length < 64; rw [List.length_map]; omega, fun q2 k2 HB sB nB eB pB2 oB => ?_⟩
    obtain ⟨y2, ky2, _⟩ := oB
    refine ⟨_, rfl, p, _, dx, _, rfl, sB _ _ eCp, T.c_W, T.a_own_heights, (by show 1 < 1000; decide), ?_⟩
    rw [wf2]
    have np2 : p ≠ q2 := ne_of_none eCp nB
    have bD : But p H (upd HB p (.ins (ga K "Work") dx [("own_loads", .ref q1), ("own_heights", .ref q2)])) := (bC.trans (but_of sB)).put _
    have eD1 : (upd HB p (.ins (ga K "Work") dx [("own_loads", .ref q1), ("own_heights", .ref q2)])) q1 = some (.dK k1) := by rw [upd_ne np1.symm]; exact sB _ _ eC1
    have eD2 : (upd HB p (.ins (ga K "Work") dx [("own_loads", .ref q1), ("own_heights", .ref q2)])) q2 = some (.dK k2) := by rw [upd_ne np2.symm]; exact eB
    have eDp : (upd HB p (.ins (ga K "Work") dx [("own_loads", .ref q1), ("own_heights", .ref q2)])) p = some (.ins (ga K "Work") dx [("own_loads", .ref q1), ("own_heights", .ref q2)]) := upd_same
    generalize upd HB p (.ins (ga K "Work") dx [("own_loads", .ref q1), ("own_heights", .ref q2)]) = HD at bD eD1 eD2 eDp
    have fr2 : H q2 = none := bC.free np2.symm nB
    clear nB eB sB eC1 eCp mC bC
    -- the ropes, one by one
    refine ⟨_, rfl, dr, kr, keys g.ropes, rfl, .inl (bD _ _ npr.symm hrp), ar.keys, by have := G.r10; show (g.ropes.map _).length < 64; rw [List.length_map]; omega, fun ys ps yperm ysort nps => ?_⟩
    have sE : Same HD _ := same1 nps (.lst (ys.map V.str))
    refine ⟨ps, rfl, ⟨_, SqL.of upd_same⟩, ?_⟩
    obtain ⟨ml, pml, aml⟩ := al_perm pB al
    obtain ⟨mh, pmh, amh⟩ := al_perm pB2 ah
    refine for_list (K := K) (a := ps) (xs := ys.map V.str) (fun i σ H2 => ∃ z : Option V, σ = [some (.ref p), some (.ref dl), some (.ref dr), some (.ref dh), z] ∧ Same (upd HD ps (.lst (ys.map V.str))) H2) ⟨none, rfl, Same.refl _⟩ (fun i σ H2 _ ⟨z, _, s⟩ => SqL.of (s _ _ upd_same)) ?_ ?_
    · rintro i x σ H2 hi ⟨z, rfl, s⟩
      rw [List.getElem?_map] at hi
      obtain ⟨y, ey, rfl⟩ := Option.map_eq_some_iff.mp hi
      have hy : y ∈ keys g.ropes := yperm.mem_iff.mp (List.mem_of_getElem? ey)
      have sD2 : Same HD H2 := sE.trans s
      have bF : But p H H2 := bD.trans (but_of sD2)
      obtain ⟨r, er⟩ : ∃ r, g.ropes.lookup y = some r := by
        cases q : g.ropes.lookup y with
        | some r => exact ⟨r, rfl⟩
        | none =>
          obtain ⟨pr, hpr, rfl⟩ := List.mem_map.mp hy
          exact absurd q (by
            have := List.lookup_eq_none_iff.mp q pr hpr
            simp at this)
      have hmem : (y, r) ∈ g.ropes := by
        obtain ⟨l1, l2, e, _⟩ := List.lookup_eq_some_iff.mp er
        rw [e]
        simp
      obtain ⟨v, ev, dv⟩ := ar.val er
      have dv2 : Dt H2 v (dRp r) := dv.mv (kd_but1 bF hp rfl)
      have okr := (G.okr _ hmem).2
      refine ⟨_, rfl, _, rfl, dr, v, rfl, ?_, _, rfl, p, dx, _, rfl, sD2 _ _ eDp, w2P _ _, ?_⟩
      · have := DGet.k (k := (Sum.inr y : Key)) (bF _ _ npr.symm hrp)
        rw [ev] at this
        exact this
      refine ⟨p, dx, q1, q2, _, k1, k2, keys ml, keys mh, rfl, sD2 _ _ eDp, w2L _ _, w2H _ _, sD2 _ _ eD1, KvR.keys aml, sD2 _ _ eD2, KvR.keys amh, ?_, ?_, fun pp H5 s5 n5 e5 => ?_⟩
      · show (ml.map _).length ≤ 50
        rw [List.length_map, pml.length_eq]
        have := G.l8
        omega
      · show (mh.map _).length ≤ 50
        rw [List.length_map, pmh.length_eq]
        have := G.f8
        omega
      have cg : ∀ x, x ∈ keys ml ++ keys mh ↔ x ∈ pts g := fun x => by
        unfold pts
        rw [List.mem_append, List.mem_append, keys_perm pml, keys_perm pmh]
      refine ⟨v, pp, keys ml ++ keys mh, r, rfl, dv2.up s5, e5, ropeB_len okr, fun H6 s6 => ⟨_, rfl, ?_⟩⟩
      rw [ropeB_congr cg, okr]
      exact iteF ⟨_, rfl, s.trans (s5.trans s6)⟩
    · rintro σ H2 ⟨z, rfl, s⟩
      have sD2 : Same HD H2 := sE.trans s
      have bF : But p H H2 := bD.trans (but_of sD2)
      refine ⟨_, rfl, dr, kr, keys g.ropes, rfl, bF _ _ npr.symm hrp, ar.keys, G.nr, by have := G.r10; show (g.ropes.map _).length < 64; rw [List.length_map]; omega, fun q3 k3 HG sG nG eG pG oG => ?_⟩
      refine ⟨_, rfl, p, _, dx, _, rfl, (sD2.trans sG) _ _ eDp, T.c_W, T.a_own_ropes, (by show 2 < 1000; decide), ?_⟩
      rw [wf3]
      have np3 : p ≠ q3 := ne_of_none (sD2 _ _ eDp) nG
      obtain ⟨mr, pmr, amr⟩ := al_perm pG ar
      have bZ := (bF.trans (but_of sG)).put (.ins (ga K "Work") dx (workFs q1 q2 q3))
      have mv : Kd flatO H (upd HG p (.ins (ga K "Work") dx (workFs q1 q2 q3))) := kd_but1 bZ hp rfl
      refine k _ bZ ⟨p, dx, q1, q2, q3, ml, mh, mr, rfl, upd_same, ⟨k1, ?_, KvR.mv aml mv⟩, ⟨k2, ?_, KvR.mv amh mv⟩, ⟨k3, ?_, KvR.mv amr mv⟩, pml, pmh, pmr, fr1, fr2, bF.free np3.symm nG⟩
      · rw [upd_ne np1.symm]
        exact (sD2.trans sG) _ _ eD1
      · rw [upd_ne np2.symm]
        exact (sD2.trans sG) _ _ eD2
      · rw [upd_ne np3.symm]
        exact eG
end
end K7

set_option Elab.async false
set_option linter.all false
set_option maxRecDepth 100000
set_option maxHeartbeats 2000000
/-! Entries, what they make, what they raise; a work's methods. -/
namespace K7
open PySem PySem.Spec PyProof.Rows L2
inductive En where
  | load (u n z : Str) (q : Fr)
  | rope (u n z : Str) (b : Bool) (ws : List Str) (q : Fr)
  | drop (u n z : Str)
inductive Er where
  | unknown (z : Str) | number (q : Fr) | name (z : Str) | rope (z : Str) | limit | nothing
def dEn : En → PyData
  | .load u n z q => .tuple [.str u, .str n, .str "load", .str z, dFr q]
  | .rope u n z b ws q => .tuple [.str u, .str n, .str "rope", .str z, dPath b ws, dFr q]
  | .drop u n z => .tuple [.str u, .str n, .str "drop", .str z]
def dEr : Er → PyData
  | .unknown z => .tuple [.str "unknown", .str z]
  | .number q => .tuple [.str "number", dFr q]
  | .name z => .tuple [.str "name", .str z]
  | .rope z => .tuple [.str "rope", .str z]
  | .limit => .tuple [.str "limit", .int 11]
  | .nothing => .tuple [.str "nothing", .none]
def due (g : Gv) : En → Option Er
  | .load _ _ z q => if z ∈ keys g.loads then (if LdOk q then none else some (.number q)) else some (.unknown z)
  | .drop _ _ z => if z ∈ keys g.ropes then none else some (.unknown z)
  | .rope _ _ z b ws q => if NameB z = true then (if RopeB (pts g) ((b, ws), q) = true then (if (putN g.ropes z ((b, ws), q)).length ≤ 10 then none else some .limit) else some (.rope z)) else some (.name z)
def made (g : Gv) : En → Gv
  | .load _ _ z q => { g with loads := putN g.loads z q }
  | .drop _ _ z => { g with ropes := dropN g.ropes z }
  | .rope _ _ z b ws q => { g with ropes := putN g.ropes z ((b, ws), q) }
/-! ### lists by names -/
section
variable {α : Type}
theorem look_iff {m : List (Str × α)} {n : Str} : (m.lookup n).isSome = true ↔ n ∈ keys m := by
  constructor
  · intro h
    obtain ⟨x, e⟩ := Option.isSome_iff_exists.mp h
    obtain ⟨l1, l2, e, _⟩ := List.lookup_eq_some_iff.mp e
    unfold keys
    rw [e]
    simp
  · intro h
    cases e : m.lookup n with
    | some x => rfl
    | none =>
      obtain ⟨p, hp, rfl⟩ := List.mem_map.mp h
      have := List.lookup_eq_none_iff.mp e p hp
      simp at this
theorem look_none {m : List (Str × α)} {n : Str} (h : ¬ n ∈ keys m) : m.lookup n = none := by
  cases e : m.lookup n with
  | none => rfl
  | some x => exact absurd (look_iff.mp (by rw [e]; rfl)) h
theorem look_some {m : List (Str × α)} {n : Str} (h : n ∈ keys m) : ∃ x, m.lookup n = some x := Option.isSome_iff_exists.mp (look_iff.mpr h)
theorem look_mem {m : List (Str × α)} {n : Str} {x : α} (h : m.lookup n = some x) : (n, x) ∈ m := by
  obtain ⟨l1, l2, e, _⟩ := List.lookup_eq_some_iff.mp h
  rw [e]
  simp
theorem putN_old {m : List (Str × α)} {n : Str} {x : α} (h : n ∈ keys m) : putN m n x = m.map fun p => if p.1 = n then (p.1, x) else p := by
  unfold putN
  rw [if_pos (look_iff.mpr h)]
theorem putN_new {m : List (Str × α)} {n : Str} {x : α} (h : ¬ n ∈ keys m) : putN m n x = m ++ [(n, x)] := by
  unfold putN
  rw [if_neg fun z => h (look_iff.mp z)]
theorem keys_putN (m : List (Str × α)) (n : Str) (x : α) : keys (putN m n x) = if n ∈ keys m then keys m else keys m ++ [n] := by
  by_cases h : n ∈ keys m
  · rw [if_pos h, putN_old h]
    unfold keys
    rw [List.map_map]
    refine List.map_congr_left fun p _ => ?_
    show (if p.1 = n then (p.1, x) else p).1 = p.1
    split <;> rfl
  · rw [if_neg h, putN_new h]
    unfold keys
    rw [List.map_append]
    rfl
theorem nodup_putN {m : List (Str × α)} {n : Str} {x : α} (h : (keys m).Nodup) : (keys (putN m n x)).Nodup := by
  rw [keys_putN]
  split
  · exact h
  · rename_i hn
    exact nd_snoc h hn
theorem mem_putN {m : List (Str × α)} {n : Str} {x : α} {p : Str × α} (h : p ∈ putN m n x) : p ∈ m ∨ p = (n, x) := by
  by_cases hn : n ∈ keys m
  · rw [putN_old hn, List.mem_map] at h
    obtain ⟨q, hq, e⟩ := h
    by_cases eq : q.1 = n
    · rw [if_pos eq] at e
      exact .inr (by rw [← e, eq])
    · rw [if_neg eq] at e
      exact .inl (e ▸ hq)
  · rw [putN_new hn, List.mem_append] at h
    rcases h with h | h
    · exact .inl h
    · exact .inr (List.mem_singleton.mp h)
theorem putN_len (m : List (Str × α)) (n : Str) (x : α) : (putN m n x).length = if n ∈ keys m then m.length else m.length + 1 := by
  have : (keys (putN m n x)).length = (putN m n x).length := List.length_map ..
  rw [← this, keys_putN]
  split
  · exact List.length_map ..
  · rw [List.length_append]
    show (m.map _).length + 1 = _
    rw [List.length_map]
theorem putN_perm {m m' : List (Str × α)} (h : m'.Perm m) (n : Str) (x : α) : (putN m' n x).Perm (putN m n x) := by
  by_cases hn : n ∈ keys m
  · rw [putN_old hn, putN_old ((keys_perm h).mpr hn)]
    exact h.map _
  · rw [putN_new hn, putN_new (fun z => hn ((keys_perm h).mp z))]
    exact h.append_right _
theorem keys_drop_sub {m : List (Str × α)} {n : Str} : List.Sublist (keys (dropN m n)) (keys m) := (List.filter_sublist).map _
end
theorem pts_put (g : Gv) {z : Str} (q : Fr) (h : z ∈ keys g.loads) (x : Str) : x ∈ pts { g with loads := putN g.loads z q } ↔ x ∈ pts g := by
  unfold pts
  rw [keys_putN, if_pos h]
theorem made_ok {g : Gv} {en : En} (G : GvOk g) (h : due g en = none) : GvOk (made g en) := by
  cases en with
  | load u n z q =>
    replace h : (if z ∈ keys g.loads then (if LdOk q then none else some (Er.number q)) else some (Er.unknown z)) = none := h
    split at h
    · rename_i hz
      split at h
      · rename_i hq
        have hl := putN_len g.loads z q
        rw [if_pos hz] at hl
        have l1 := G.l1
        have l8 := G.l8
        have hl1 : 1 ≤ (putN g.loads z q).length := by omega
        have hl8 : (putN g.loads z q).length ≤ 8 := by omega
        refine ⟨nodup_putN G.nl, G.nr, G.nf, hl1, hl8, G.f8, G.r10, fun p hp => ?_, G.okf, fun p hp => ⟨(G.okr p hp).1, ?_⟩⟩
        · rcases mem_putN hp with hp | rfl
          · exact G.okl p hp
          · obtain ⟨y, ey⟩ := look_some hz
            exact ⟨(G.okl _ (look_mem ey)).1, hq⟩
        · exact (ropeB_congr (pts_put g q hz) p.2).trans (G.okr p hp).2
      · cases h
    · cases h
  | drop u n z =>
    refine ⟨G.nl, G.nr.sublist keys_drop_sub, G.nf, G.l1, G.l8, G.f8, Nat.le_trans (List.length_filter_le _ _) G.r10, G.okl, G.okf, fun p hp => G.okr p (List.mem_filter.mp hp).1⟩
  | rope u n z b ws q =>
    replace h : (if NameB z = true then (if RopeB (pts g) ((b, ws), q) = true then (if (putN g.ropes z ((b, ws), q)).length ≤ 10 then none else some Er.limit) else some (Er.rope z)) else some (Er.name z)) = none := h
    split at h
    · rename_i hz
      split at h
      · rename_i hq
        split at h
        · rename_i hl
          refine ⟨G.nl, nodup_putN G.nr, G.nf, G.l1, G.l8, G.f8, hl, G.okl, G.okf, fun p hp => ?_⟩
          rcases mem_putN hp with hp | rfl
          · exact G.okr p hp
          · exact ⟨hz, hq⟩
        · cases h
      · cases h
    · cases h
/-- a work's parts in another order -/
theorem gv_perm {g : Gv} {ml mh : List (Str × Fr)} {mr : List (Str × Rp)} (G : GvOk g) (pl : ml.Perm g.loads) (pr : mr.Perm g.ropes) (ph : mh.Perm g.fixed) : GvOk ⟨ml, mr, mh⟩ := by
  have cg : ∀ x, x ∈ pts ⟨ml, mr, mh⟩ ↔ x ∈ pts g := fun x => by
    unfold pts
    rw [List.mem_append, List.mem_append, keys_perm pl, keys_perm ph]
  exact ⟨(pl.map _).nodup_iff.mpr G.nl, (pr.map _).nodup_iff.mpr G.nr, (ph.map _).nodup_iff.mpr G.nf, by rw [pl.length_eq]; exact G.l1, by rw [pl.length_eq]; exact G.l8, by rw [ph.length_eq]; exact G.f8, by rw [pr.length_eq]; exact G.r10,
    fun p hp => G.okl p (pl.mem_iff.mp hp), fun p hp => G.okf p (ph.mem_iff.mp hp), fun p hp => ⟨(G.okr p (pr.mem_iff.mp hp)).1, (ropeB_congr cg p.2).trans (G.okr p (pr.mem_iff.mp hp)).2⟩⟩
theorem wk_perm {K : PySem.W.Frag} {H : Hp} {v : V} {g : Gv} {ml mh : List (Str × Fr)} {mr : List (Str × Rp)} (W : WkAt K H v ⟨ml, mr, mh⟩) (pl : ml.Perm g.loads) (pr : mr.Perm g.ropes) (ph : mh.Perm g.fixed) : WkAt K H v g := by
  obtain ⟨a, dx, l, h, r, m1, m2, m3, e, ea, h1, h2, h3, p1, p2, p3⟩ := W
  exact ⟨a, dx, l, h, r, m1, m2, m3, e, ea, h1, h2, h3, p1.trans pl, p2.trans ph, p3.trans pr⟩
/-- what is raised of an error -/
def RsE (K : PySem.W.Frag) (er : Er) (H : Hp) (E : XK) : Prop := match er with
  | .unknown z => Rs K "UnknownName" "name" (.str z) H E
  | .number q => ∀ H1 v, Same H H1 → Dt H1 v (dFr q) → Rs K "InvalidNumber" "value" v H1 E
  | .name z => Rs K "InvalidName" "value" (.str z) H E
  | .rope z => Rs K "InvalidRope" "name" (.str z) H E
  | .limit => Rs K "LimitExceeded" "count" (.int 11) H E
  | .nothing => ∀ H', Same H H' → E (.ref (ga K "NothingToUndo")) none H'
theorem RsE.up {K : PySem.W.Frag} {er : Er} {H H1 : Hp} {E : XK} (h : RsE K er H E) (s : Same H H1) : RsE K er H1 E := by
  cases er with
  | number q => exact fun H2 v s2 d => h H2 v (s.trans s2) d
  | nothing => exact fun H' s' => h H' (s.trans s')
  | _ => exact Rs.up h s
/-- either is raised, or goes on with a work -/
def Outc (K : PySem.W.Frag) (g : Gv) (en : En) (H : Hp) (Q : VK) (E : XK) : Prop := (∀ er, due g en = some er → RsE K er H E) ∧ (due g en = none → ∀ v H', Same H H' → WkAt K H' v (made g en) → Q v H')
def spWL (K : PySem.W.Frag) : Sp := fun vs H Q E => ∃ (a : Addr) (g : Gv) (u n z : Str) (q : Fr) (vq : V), vs = [.ref a, .str z, vq] ∧ WkAt K H (.ref a) g ∧ GvOk g ∧ Dt H vq (dFr q) ∧ Outc K g (.load u n z q) H Q E
def spWR (K : PySem.W.Frag) : Sp := fun vs H Q E => ∃ (a : Addr) (g : Gv) (u n z : Str) (b : Bool) (ws : List Str) (q : Fr) (vp vq : V), vs = [.ref a, .str z, vp, vq] ∧ WkAt K H (.ref a) g ∧ GvOk g ∧ z.length ≤ 100 ∧ ws.length ≤ 100 ∧ Dt H vp (dPath b ws) ∧ Dt H vq (dFr q) ∧ Outc K g (.rope u n z b ws q) H Q E
def spWD (K : PySem.W.Frag) : Sp := fun vs H Q E => ∃ (a : Addr) (g : Gv) (u n z : Str), vs = [.ref a, .str z] ∧ WkAt K H (.ref a) g ∧ GvOk g ∧ Outc K g (.drop u n z) H Q E
/-! ### Work(..) as a rule -/
theorem work_new {K : PySem.W.Frag} {H : Hp} {Q : VK} {dl dr dh : Addr} {g : Gv} (h1 : DA dFr H dl g.loads) (h2 : DA dRp H dr g.ropes) (h3 : DA dFr H dh g.fixed) (G : GvOk g) (k : ∀ x H', Same H H' → H x = none → WkN K H H' (.ref x) g → Q (.ref x) H') :
    ∀ x dx, H x = none → H dx = none → dx ≠ x → spInitW K ([.ref x, .ref dl, .ref dr] ++ [.ref dh]) (upd (upd H dx (.own x)) x (.ins (ga K "Work") dx [])) (fun v H3 => v = .non ∧ Q (.ref x) H3) E0 := by
  intro x dx hx hdx ne
  have s : Same H (upd (upd H dx (.own x)) x (.ins (ga K "Work") dx [])) := same_new (same1 hdx _) (by rw [upd_ne ne.symm]; exact hx) _
  refine ⟨x, dx, dl, dr, dh, g, rfl, upd_same, h1.up s, h2.up s, h3.up s, G, fun H' b W => ⟨rfl, k x H' ?_ hx ?_⟩⟩
  · exact fun c o e => b c o (ne_of_none e hx) (s c o e)
  · obtain ⟨a, dy, l, hh, r, ml, mh, mr, e, ea, w1, w2, w3, p1, p2, p3, f1, f2, f3⟩ := W
    exact ⟨a, dy, l, hh, r, ml, mh, mr, e, ea, w1, w2, w3, p1, p2, p3, s.free f1, s.free f2, s.free f3⟩
section
variable {P : Program} {w : World} {K : PySem.W.Frag} {mg : Str → Option Value} {base : Heap}
theorem kb_work {f : Addr} {fd : FuncData} (F : FunD K "__init__" "Work.__init__" (defArgs s_Work_init) (defBody s_Work_init) (defScope s_Work_init) [] [("anchors", .non)] f fd) :
    ∃ mv : List Value, KBn K fd ["self", "hooks", "ropes", "anchors"] 3 ["anchors"] (fun us ws => us ++ ws) (fun vs zs => vs ++ zs) := by
  obtain ⟨mv, h⟩ := F.kbinds0 (ps := ["self", "hooks", "ropes", "anchors"]) 3 ["anchors"] [] (fun us _ ws => us ++ ws) (by simp) (fun q hq => by cases hq) (fun r1 _ r3 => r1.append r3) (fun D doc pm an cdv ct us mv ws l1 l2 l3 => match us, mv, ws, l1, l2, l3 with | [_, _, _], [], [_], _, _, _ => rfl)
  exact ⟨mv, h⟩
end
theorem pe_work {X : Cx} {a b c : Expr} {t tk : TA} {p kpos pos : Pos} (T : TX X.prog X.K X.mg) (hr : Room 6 X.A) (ha : PA X [a, b] t) (hk : PK X [⟨some "anchors", c, kpos⟩] tk) (hg : Gl X "Work" := by rfl)
    (hall : (backToKw pos (keywordEach [⟨some "anchors", c, kpos⟩] X.env)).all (·.1.isSome) = true := by rfl) (hks : (backToKw pos (keywordEach [⟨some "anchors", c, kpos⟩] X.env)).filterMap (·.1) = ([("anchors" : Str)] : List Str) := by rfl)
    (he : starEach [a, b] X.env = (false, eval a X.env) :: starEach [b] X.env := by rfl) (hpl : ((backTo pos (starEach [a, b] X.env)).any (·.1) || (backToKw pos (keywordEach [⟨some "anchors", c, kpos⟩] X.env)).any (·.1.isNone)) = false := by rfl) :
    PE X (.Call (.Name "Work" p) [a, b] [⟨some "anchors", c, kpos⟩] pos) (tMakeK (ga X.K "Work") 2 1 (spInitW X.K) (fun vs zs => vs ++ zs) E0 t tk) := by
  obtain ⟨fd, F⟩ := T.i_W
  obtain ⟨mv, hb⟩ := kb_work F
  exact pe_makeK T.mk_W (ok_initW T (FunD.toFun F)) hr hg T.g_W hb pass0 ha hk hall hks (by decide) he hpl
end K7

set_option Elab.async false
set_option linter.all false
set_option maxRecDepth 100000
set_option maxHeartbeats 2000000
/-! with_load, with_rope, without_rope. -/
namespace K7
open PySem PySem.Spec PyProof.Rows L2
theorem upd_upd {H : Hp} {p : Addr} {a b : HO} : upd (upd H p a) p b = upd H p b := by
  funext c
  by_cases e : c = p
  · subst e; rw [upd_same, upd_same]
  · rw [upd_ne e, upd_ne e, upd_ne e]
/-- a display with ** : p, q new -/
theorem mrg {H H3 : Hp} {p q : Addr} {kvs : List (Key × V)} {k : Key} {z : V} (hp : H p = none) (hq : (upd (upd H p (.dK [])) p (.dK kvs)) q = none) (s : Same (upd (upd (upd H p (.dK [])) p (.dK kvs)) q (.dK [])) H3) :
    p ≠ q ∧ H3 q = some (.dK []) ∧ H3 p = some (.dK kvs) ∧ Same H (upd (upd H3 q (.dK [(k, z)])) p (.dK (putK kvs k z))) := by
  rw [upd_upd] at hq s
  have npq : p ≠ q := fun e => by subst e; rw [upd_same] at hq; cases hq
  have hq0 : H q = none := by rw [upd_ne npq.symm] at hq; exact hq
  refine ⟨npq, s _ _ upd_same, s _ _ (by rw [upd_ne npq, upd_same]), fun c o e => ?_⟩
  have n1 : c ≠ p := ne_of_none e hp
  have n2 : c ≠ q := ne_of_none e hq0
  rw [upd_ne n1, upd_ne n2]
  exact s _ _ (by rw [upd_ne n2, upd_ne n1]; exact e)
theorem wkm {l h r : Addr} {m : Str} (h1 : (m == "own_loads") = false) (h2 : (m == "own_heights") = false) (h3 : (m == "own_ropes") = false) : (workFs l h r).lookup m = none := lk3n h1 h2 h3
section
variable {P : Program} {w : World} {K : PySem.W.Frag} {mg : Str → Option Value} {base : Heap}
theorem cal_with_load (T : TX P K mg) : CalM P w K mg base (CX P w) 7 (ga K "Work") "with_load" (spWL K) := T.m_Work_with_load.cal (ps := ["self", "hook", "load"]) (fun f fd F => by
  refine F.okX c_Work_with_load (fun vs H Q E h => ?_) (fun cdv A outer s H vs Q E hr h => ?_)
  · obtain ⟨a, g, u, n, z, q, vq, rfl, _⟩ := h
    rfl
  · obtain ⟨a, g, u, n, z, q, vq, rfl, W, G, dq, k1, k2⟩ := h
    have nd := c_Work_with_load.nd
    have hr1 : Room 1 _ := hr.mono (by decide)
    have hr3 : Room 3 _ := hr.mono (by decide)
    obtain ⟨fI, XT⟩ := T.x_InvalidNumber
    refine ⟨_, pss_cons (ps_expr (pe_cal (cal_check_known T) hr1 (passes_call (takes_of rfl rfl rfl rfl) (fun _ _ _ _ h => h)) (pa_cons (pv 1) (pa_cons (pe_fld (pv 0) rfl) pa_nil))))
      (pss_cons (ps_if (pt_not (pt_val (pe_cal (cal_is_load T) hr3 pass0 (pa_cons (pv 2) pa_nil)))) (pss_one (ps_raiseX rfl PySem.F.excBase_ValueError XT xi_ValueError xn_value hr (takes_of rfl rfl rfl rfl) (pa_cons (pv 2) pa_nil))) pss_nil)
      (pss_one (ps_ret (pe_work T hr (pa_cons (pe_dmerge (pe_fld (pv 0) rfl) (pv 1) (pv 2)) (pa_cons (pe_fld (pv 0) rfl) pa_nil)) (pk_cons (pe_fld (pv 0) rfl) pk_nil))))), ?_⟩
    obtain ⟨a', dx, l, hh, r, ml, mh, mr, ea', ha, ⟨kl, hl, al⟩, ⟨kh, hhh, ah⟩, ⟨kr, hrr, ar⟩, pl, ph, pr⟩ := W
    cases ea'
    have kn : ∀ m : List (Str × Fr), m.Perm g.loads → KvR dFr H kl m → (valV kl (Sum.inr z : Key) = none → ¬ z ∈ keys g.loads) := fun m pm am e hz => by
      obtain ⟨x, ex⟩ := look_some ((keys_perm pm).mpr hz)
      obtain ⟨v, ev, _⟩ := am.val ex
      rw [e] at ev
      cases ev
    refine ⟨_, rfl, _, rfl, a, _, dx, _, _, rfl, ha, T.c_W, T.a_own_loads, wL _ _ _, z, l, kl, rfl, hl, fun v ev => ?_, fun e => ?_⟩
    case refine_2 => exact k1 (.unknown z) (if_neg (kn ml pl al e))
    have hz : z ∈ keys g.loads := by
      by_cases hz : z ∈ keys g.loads
      · exact hz
      · have := al.valN (look_none fun q => hz ((keys_perm pl).mp q))
        rw [this] at ev
        cases ev
    refine ⟨_, rfl, vq, q, rfl, dq, _, rfl, ?_⟩
    by_cases hq : LdOk q
    case neg =>
      rw [decide_eq_false hq]
      refine iteT ⟨_, rfl, vq, rfl, fun d hd => ?_⟩
      have e : due g (.load u n z q) = some (.number q) := by
        show (if z ∈ keys g.loads then (if LdOk q then none else some (Er.number q)) else some (Er.unknown z)) = _
        rw [if_pos hz, if_neg hq]
      exact (k1 _ e H vq (Same.refl H) dq).at d hd
    rw [decide_eq_true hq]
    have e : due g (.load u n z q) = none := by
      show (if z ∈ keys g.loads then (if LdOk q then none else some (Er.number q)) else some (Er.unknown z)) = _
      rw [if_pos hz, if_pos hq]
    refine iteF ?_
    intro p hp
    have npl : p ≠ l := (ne_of_none hl hp).symm
    have npa : p ≠ a := (ne_of_none ha hp).symm
    refine ⟨_, rfl, a, _, dx, _, _, rfl, (by rw [upd_ne npa.symm]; exact ha), T.c_W, T.a_own_loads, wL _ _ _, l, kl, rfl, .inl (by rw [upd_ne npl.symm]; exact hl), npl, upd_same, fun q2 hq2 => ?_⟩
    obtain ⟨m1, m2, m3, m4⟩ := mrg (k := Sum.inr z) (z := vq) hp hq2 (Same.refl _)
    refine ⟨_, rfl, _, rfl, Sum.inr z, rfl, m2, m3, m1, ?_, ?_⟩
    · have := G.l8
      have h1 : kl.length = ml.length := al.length
      have h2 := pl.length_eq
      exact Nat.le_of_lt (small1000 (by omega))
    generalize hZ : (upd (upd (upd (upd (upd H p (.dK [])) p (.dK kl)) q2 (.dK [])) q2 (.dK [(Sum.inr z, vq)])) p (.dK (putK kl (Sum.inr z : Key) vq))) = HZ at m4
    have eZ : HZ p = some (.dK (putK kl (Sum.inr z : Key) vq)) := by rw [← hZ]; exact upd_same
    refine ⟨_, rfl, a, _, dx, _, _, rfl, m4 _ _ ha, T.c_W, T.a_own_ropes, wR _ _ _, ?_⟩
    refine ⟨_, rfl, a, _, dx, _, _, rfl, m4 _ _ ha, T.c_W, T.a_own_heights, wH _ _ _, rfl, rfl, ?_⟩
    have hpl2 : ∀ m : List (Str × Fr), m = putN ml z q → m.Perm (putN g.loads z q) := fun m em => by rw [em]; exact putN_perm pl z q
    have G2 : GvOk ⟨putN ml z q, mr, mh⟩ := gv_perm (made_ok G e) (putN_perm pl z q) pr ph
    refine work_new (g := ⟨putN ml z q, mr, mh⟩) ⟨_, eZ, (al.mv (kd_of m4)).put (dq.up m4)⟩ ⟨kr, m4 _ _ hrr, ar.mv (kd_of m4)⟩ ⟨kh, m4 _ _ hhh, ah.mv (kd_of m4)⟩ G2 fun x H' s' nx Wx => ?_
    exact k2 e _ H' (m4.trans s') (wk_perm Wx.at (putN_perm pl z q) pr ph)) (fun _ _ _ _ _ _ us hl => match us, hl with | [_, _, _], _ => rfl)
end
end K7

set_option Elab.async false
set_option linter.all false
set_option maxRecDepth 100000
set_option maxHeartbeats 2000000
namespace K7
open PySem PySem.Spec PyProof.Rows L2
theorem dRp_mk {H : Hp} {t : Addr} {vp vq : V} {r : Rp} (e : H t = some (.tup [vp, vq])) (d1 : Dt H vp (dPath r.1.1 r.1.2)) (d2 : Dt H vq (dFr r.2)) : Dt H (.ref t) (dRp r) := .tup e (.cons d1 (.cons d2 .nil))
theorem dropK_snoc {l : List (Key × V)} {p : Key × V} {k : Key} : dropK (l ++ [p]) k = dropK l k ++ (if p.1 = k then [] else [p]) := by
  unfold dropK
  rw [List.filter_append]
  congr 1
  by_cases e : p.1 = k
  · rw [if_pos e, List.filter_cons, if_neg (by simp [e])]
    rfl
  · rw [if_neg e, List.filter_cons, if_pos (by simp [e])]
    rfl
section
variable {P : Program} {w : World} {K : PySem.W.Frag} {mg : Str → Option Value} {base : Heap}
theorem cal_with_rope (T : TX P K mg) : CalM P w K mg base (CX P w) 7 (ga K "Work") "with_rope" (spWR K) := T.m_Work_with_rope.cal (ps := ["self", "name", "path", "length"]) (fun f fd F => by
  refine F.okX c_Work_with_rope (fun vs H Q E h => ?_) (fun cdv A outer s H vs Q E hr h => ?_)
  · obtain ⟨a, g, u, n, z, b, ws, q, vp, vq, rfl, _⟩ := h
    rfl
  · obtain ⟨a, g, u, n, z, b, ws, q, vp, vq, rfl, W, G, hz, hws, dp, dq, k1, k2⟩ := h
    have nd := c_Work_with_rope.nd
    have hr1 : Room 1 _ := hr.mono (by decide)
    have hr2 : Room 2 _ := hr.mono (by decide)
    have hr3 : Room 3 _ := hr.mono (by decide)
    obtain ⟨fI, XN⟩ := T.x_InvalidName
    obtain ⟨fI2, XR⟩ := T.x_InvalidRope
    obtain ⟨t10, h10⟩ := T.i_MAX_ROPES
    refine ⟨_, pss_cons (ps_if (pt_not (pt_val (pe_cal (cal_is_name T) hr2 pass0 (pa_cons (pv 1) pa_nil)))) (pss_one (ps_raiseX rfl PySem.F.excBase_ValueError XN xi_ValueError xn_value hr (takes_of rfl rfl rfl rfl) (pa_cons (pv 1) pa_nil))) pss_nil)
      (pss_cons (ps_if (pt_not (pt_val (pe_cal (cal_is_rope T) hr3 pass0 (pa_cons (pe_tup (pa_cons (pv 2) (pa_cons (pv 3) pa_nil))) (pa_cons (pe_calM0 (pv 0) T.c_W (cal_points T) hr1 pass0) pa_nil))))) (pss_one (ps_raiseX rfl PySem.F.excBase_ValueError XR xi_ValueError xn_name hr (takes_of rfl rfl rfl rfl) (pa_cons (pv 1) pa_nil))) pss_nil)
      (pss_cons (ps_set (i := 4) nd rfl (Or.inl rfl) (pe_dmerge (pe_fld (pv 0) rfl) (pv 1) (pe_tup (pa_cons (pv 2) (pa_cons (pv 3) pa_nil)))))
      (pss_cons (ps_expr (pe_cal (cal_check_size T) hr1 (passes_call (takes_of rfl rfl rfl rfl) (fun _ _ _ _ h => h)) (pa_cons (pe_callB call_lenD (by rfl) T.f_len PySem.boot_len (pa_cons (pv 4) pa_nil)) (pa_cons (pe_glob (v := .int 10) rfl h10 ⟨_, rfl⟩) pa_nil))))
      (pss_one (ps_ret (pe_work T hr (pa_cons (pe_fld (pv 0) rfl) (pa_cons (pv 4) pa_nil)) (pk_cons (pe_fld (pv 0) rfl) pk_nil))))))), ?_⟩
    obtain ⟨a', dx, l, hh, r, ml, mh, mr, ea', ha, ⟨kl, hl, al⟩, ⟨kh, hhh, ah⟩, ⟨kr, hrr, ar⟩, pl, ph, pr⟩ := W
    cases ea'
    have eD : due g (.rope u n z b ws q) = (if NameB z = true then (if RopeB (pts g) ((b, ws), q) = true then (if (putN g.ropes z ((b, ws), q)).length ≤ 10 then none else some .limit) else some (.rope z)) else some (.name z)) := rfl
    -- the name
    refine ⟨_, rfl, z, rfl, hz, fun H1 s1 => ⟨_, rfl, ?_⟩⟩
    by_cases c1 : NameB z = true
    case neg =>
      rw [show NameB z = false by simpa using c1]
      refine iteT ⟨_, rfl, _, rfl, fun d hd => ?_⟩
      have e : due g (.rope u n z b ws q) = some (.name z) := by rw [eD, if_neg c1]
      exact (Rs.up (k1 _ e) s1).at d hd
    rw [c1]
    refine iteF ?_
    rw [if_pos c1] at eD
    -- the path
    refine ⟨_, rfl, _, rfl, (by show 2 ≤ sizeLine; decide), fun t ht => ?_⟩
    have s2 : Same H _ := same_new s1 ht (.tup [vp, vq])
    have lkl : (keys ml).length ≤ 50 := by
      show (ml.map _).length ≤ 50
      rw [List.length_map, pl.length_eq]
      have := G.l8
      omega
    have lkh : (keys mh).length ≤ 50 := by
      show (mh.map _).length ≤ 50
      rw [List.length_map, ph.length_eq]
      have := G.f8
      omega
    refine ⟨_, rfl, a, dx, _, rfl, s2 _ _ ha, wkm (by decide +kernel) (by decide +kernel) (by decide +kernel), ?_⟩
    refine ⟨a, dx, l, hh, _, kl, kh, keys ml, keys mh, rfl, s2 _ _ ha, wL _ _ _, wH _ _ _, s2 _ _ hl, al.keys, s2 _ _ hhh, ah.keys, lkl, lkh, fun pp H3 s3 n3 e3 => ?_⟩
    have s13 := s2.trans s3
    have cg : ∀ x, x ∈ keys ml ++ keys mh ↔ x ∈ pts g := fun x => by
      unfold pts
      rw [List.mem_append, List.mem_append, keys_perm pl, keys_perm ph]
    refine ⟨.ref t, pp, keys ml ++ keys mh, ((b, ws), q), rfl, dRp_mk (s3 _ _ upd_same) (dp.up s13) (dq.up s13), e3, hws, fun H4 s4 => ⟨_, rfl, ?_⟩⟩
    have s14 : Same H H4 := s13.trans s4
    rw [ropeB_congr cg]
    by_cases c2 : RopeB (pts g) ((b, ws), q) = true
    case neg =>
      rw [show RopeB (pts g) ((b, ws), q) = false by simpa using c2]
      refine iteT ⟨_, rfl, _, rfl, fun d hd => ?_⟩
      have e : due g (.rope u n z b ws q) = some (.rope z) := by rw [eD, if_neg c2]
      exact (Rs.up (k1 _ e) s14).at d hd
    rw [c2]
    refine iteF ?_
    rw [if_pos c2] at eD
    clear s13 s1 s2 s3 s4 e3
    -- the ropes and one more
    intro p hp
    have npl : p ≠ r := (ne_of_none (s14 _ _ hrr) hp).symm
    have npa : p ≠ a := (ne_of_none (s14 _ _ ha) hp).symm
    refine ⟨_, rfl, a, _, dx, _, _, rfl, (by rw [upd_ne npa.symm]; exact s14 _ _ ha), T.c_W, T.a_own_ropes, wR _ _ _, r, kr, rfl, .inl (by rw [upd_ne npl.symm]; exact s14 _ _ hrr), npl, upd_same, fun q2 hq2 => ?_⟩
    refine ⟨_, rfl, _, rfl, _, rfl, (by show 2 ≤ sizeLine; decide), fun t2 ht2 => ?_⟩
    obtain ⟨m1, m2, m3, m4⟩ := mrg (k := Sum.inr z) (z := .ref t2) hp hq2 (same1 ht2 (.tup [vp, vq]))
    have lkr : kr.length = g.ropes.length := ar.length.trans pr.length_eq
    refine ⟨Sum.inr z, rfl, m2, m3, m1, ?_, ?_⟩
    · have := G.r10
      exact Nat.le_of_lt (small1000 (by omega))
    have ntq : t2 ≠ q2 := fun e => by subst e; rw [upd_same] at ht2; cases ht2
    have ntp : t2 ≠ p := fun e => by subst e; rw [upd_ne m1, upd_same] at ht2; cases ht2
    generalize hZ : (upd (upd (upd (upd (upd (upd H4 p (.dK [])) p (.dK kr)) q2 (.dK [])) t2 (.tup [vp, vq])) q2 (.dK [(Sum.inr z, .ref t2)])) p (.dK (putK kr (Sum.inr z : Key) (.ref t2)))) = HZ at m4
    have eZ : HZ p = some (.dK (putK kr (Sum.inr z : Key) (.ref t2))) := by rw [← hZ]; exact upd_same
    have eT : HZ t2 = some (.tup [vp, vq]) := by rw [← hZ, upd_ne ntp, upd_ne ntq]; exact upd_same
    clear hZ
    have sZ : Same H HZ := s14.trans m4
    have dT : Dt HZ (.ref t2) (dRp ((b, ws), q)) := dRp_mk eT (dp.up sZ) (dq.up sZ)
    have arZ : KvR dRp HZ (putK kr (Sum.inr z : Key) (.ref t2)) (putN mr z ((b, ws), q)) := (ar.mv (kd_of sZ)).put dT
    have lZ : (putK kr (Sum.inr z : Key) (.ref t2)).length = (putN g.ropes z ((b, ws), q)).length := arZ.length.trans (putN_perm pr z _).length_eq
    refine ⟨_, rfl, p, _, rfl, eZ, _, _, rfl, fun hle => ?_, fun hgt => ?_⟩
    case refine_2 =>
      have hl2 := putN_len g.ropes z ((b, ws), q)
      have h10' := G.r10
      have e11 : ((putK kr (Sum.inr z : Key) (.ref t2)).length : Int) = 11 := by
        split at hl2 <;> omega
      have c3 : ¬ (putN g.ropes z ((b, ws), q)).length ≤ 10 := by omega
      have e : due g (.rope u n z b ws q) = some .limit := by rw [eD, if_neg c3]
      rw [e11]
      exact Rs.up (k1 _ e) sZ
    have c3 : (putN g.ropes z ((b, ws), q)).length ≤ 10 := by omega
    have e : due g (.rope u n z b ws q) = none := by rw [eD, if_pos c3]
    refine ⟨_, rfl, a, _, dx, _, _, rfl, sZ _ _ ha, T.c_W, T.a_own_loads, wL _ _ _, _, rfl, _, rfl, a, _, dx, _, _, rfl, sZ _ _ ha, T.c_W, T.a_own_heights, wH _ _ _, rfl, rfl, ?_⟩
    have G2 : GvOk ⟨ml, putN mr z ((b, ws), q), mh⟩ := gv_perm (made_ok G e) pl (putN_perm pr z _) ph
    refine work_new (g := ⟨ml, putN mr z ((b, ws), q), mh⟩) ⟨kl, sZ _ _ hl, al.mv (kd_of sZ)⟩ ⟨_, eZ, arZ⟩ ⟨kh, sZ _ _ hhh, ah.mv (kd_of sZ)⟩ G2 fun x H' s' nx Wx => ?_
    exact k2 e _ H' (sZ.trans s') (wk_perm Wx.at pl (putN_perm pr z _) ph)) (fun _ _ _ _ _ _ us hl => match us, hl with | [_, _, _, _], _ => rfl)
theorem cal_without_rope (T : TX P K mg) : CalM P w K mg base (CX P w) 7 (ga K "Work") "without_rope" (spWD K) := T.m_Work_without_rope.cal (ps := ["self", "rope"]) (fun f fd F => by
  refine F.okX c_Work_without_rope (fun vs H Q E h => ?_) (fun cdv A outer s H vs Q E hr h => ?_)
  · obtain ⟨a, g, u, n, z, rfl, _⟩ := h
    rfl
  · obtain ⟨a, g, u, n, z, rfl, W, G, k1, k2⟩ := h
    have nd := c_Work_without_rope.nd
    have hr1 : Room 1 _ := hr.mono (by decide)
    refine ⟨_, pss_cons (ps_expr (pe_cal (cal_check_known T) hr1 (passes_call (takes_of rfl rfl rfl rfl) (fun _ _ _ _ h => h)) (pa_cons (pv 1) (pa_cons (pe_fld (pv 0) rfl) pa_nil))))
      (pss_cons (ps_lock (ps_setDc (i := 2) (own := [("name", 3), ("told", 4)]) (g := gPair K 3 4) rfl nd rfl rfl (sw_trueD rfl rfl rfl (by decide +kernel)) (pi_items (pe_fld (pv 0) rfl)) (blkOk_by (own := [("name", 3), ("told", 4)]) (N := n_Work_without_rope) (sc := defScope s_Work_without_rope) (by decide +kernel))
        (fun _ _ _ _ _ => pg_tup rfl (pgs_cons (pg_name (i := 3) nd rfl (Or.inl rfl)) (pgs_cons (pg_name (i := 4) nd rfl (Or.inl rfl)) pgs_nil))) (fun _ _ _ _ _ => pts_one (pt_cmpR op_ne (pv 3) (pv 1) (nomark _))) (fun _ _ _ _ _ => pv 3) (fun _ _ _ _ _ => pv 4)))
      (pss_one (ps_ret (pe_work T hr (pa_cons (pe_fld (pv 0) rfl) (pa_cons (pv 2) pa_nil)) (pk_cons (pe_fld (pv 0) rfl) pk_nil))))), ?_⟩
    obtain ⟨a', dx, l, hh, r, ml, mh, mr, ea', ha, ⟨kl, hl, al⟩, ⟨kh, hhh, ah⟩, ⟨kr, hrr, ar⟩, pl, ph, pr⟩ := W
    cases ea'
    have eD : due g (.drop u n z) = (if z ∈ keys g.ropes then none else some (.unknown z)) := rfl
    refine ⟨_, rfl, _, rfl, a, _, dx, _, _, rfl, ha, T.c_W, T.a_own_ropes, wR _ _ _, z, r, kr, rfl, hrr, fun v ev => ?_, fun e => ?_⟩
    case refine_2 =>
      refine k1 (.unknown z) ?_
      rw [eD, if_neg fun hz => ?_]
      obtain ⟨x, ex⟩ := look_some ((keys_perm pr).mpr hz)
      obtain ⟨v, ev, _⟩ := ar.val ex
      rw [e] at ev
      cases ev
    have hz : z ∈ keys g.ropes := by
      by_cases hz : z ∈ keys g.ropes
      · exact hz
      · have := ar.valN (look_none fun q => hz ((keys_perm pr).mp q))
        rw [this] at ev
        cases ev
    rw [if_pos hz] at eD
    have ndr : (kr.map (·.1)).Nodup := ar.nd ((pr.map _).nodup_iff.mpr G.nr)
    refine ⟨r, _, hrr, True.intro, fun od => ?_⟩
    have nar : a ≠ r := ne_of ha hrr (by intro z; cases z)
    refine ⟨_, rfl, a, _, dx, _, _, rfl, (by rw [upd_ne nar]; exact ha), T.c_W, T.a_own_ropes, wR _ _ _, r, od, kr, rfl, upd_same, fun D hD => ?_⟩
    have nD : r ≠ D := fun z => by subst z; rw [upd_same] at hD; cases hD
    have hD0 : H D = none := by rw [upd_ne nD.symm] at hD; exact hD
    have lkr : kr.length = g.ropes.length := ar.length.trans pr.length_eq
    refine dc_it (walk_items (d := r) (o := od) (kvs := kr)) (fun i H2 => But D (upd H r (.frz od (.dK kr))) H2 ∧ H2 D = some (.dK (dropK (kr.take i) (Sum.inr z : Key)))) ⟨(But.refl _ _).put _, upd_same⟩ (fun i H2 _ p => p.1 r _ nD upd_same) ?_ ?_
    · rintro i x H2 H3 hi ⟨hb, hd⟩ ⟨t, x1, x2, rfl, ht, rfl, e1, e2⟩
      have e0 : kr[i]? = some kr[i] := List.getElem?_eq_getElem hi
      replace e1 : (kr[i]?.map fun kv => kV kv.1) = some x1 := e1
      replace e2 : kr[i]?.map Prod.snd = some x2 := e2
      rw [e0] at e1 e2
      obtain ⟨p0, ep0, ek, dv⟩ := ar.get e0
      have q1 : kV kr[i].1 = x1 := Option.some.inj e1
      have q2 : kr[i].2 = x2 := Option.some.inj e2
      rw [show kr[i].1 = Sum.inr p0.1 from ek] at q1
      subst q1
      subst q2
      have b2 := hb.new ht (.tup [kV (Sum.inr p0.1 : Key), kr[i].2])
      have hd2 := same1 ht (.tup [kV (Sum.inr p0.1 : Key), kr[i].2]) _ _ hd
      have etake : kr.take (i + 1) = kr.take i ++ [kr[i]] := by rw [List.take_add_one, e0]; rfl
      refine ⟨t, _, rfl, SqT.of upd_same, rfl, _, _, rfl, _, _, rfl, rfl, rfl, ?_⟩
      refine ⟨_, rfl, _, rfl, rfl, _, rfl, ?_⟩
      by_cases c : p0.1 = z
      · rw [show decide (kV (Sum.inr p0.1 : Key) = V.str z) = true from decide_eq_true (by rw [c]; rfl)]
        refine iteF ⟨b2, ?_⟩
        rw [etake, dropK_snoc, if_pos (show kr[i].1 = Sum.inr z by rw [show kr[i].1 = Sum.inr p0.1 from ek, c]), List.append_nil]
        exact hd2
      · rw [show decide (kV (Sum.inr p0.1 : Key) = V.str z) = false from decide_eq_false (fun q => c (by injection (show V.str p0.1 = V.str z from q)))]
        refine iteT ⟨_, rfl, _, rfl, _, (Sum.inr p0.1 : Key), rfl, hd2, ?_, b2.put _, ?_⟩
        · have h1 := dropK_le (kr.take i) (Sum.inr z : Key)
          have h2 : (kr.take i).length ≤ kr.length := by rw [List.length_take]; omega
          have h3 := G.r10
          exact small1000 (by omega)
        · rw [upd_same, etake, dropK_snoc, if_neg (show ¬ kr[i].1 = Sum.inr z by rw [show kr[i].1 = Sum.inr p0.1 from ek]; exact fun q => c (Sum.inr.inj q))]
          congr 2
          have hnew : valV (dropK (kr.take i) (Sum.inr z : Key)) (Sum.inr p0.1 : Key) = none := by
            cases q : valV (dropK (kr.take i) (Sum.inr z : Key)) (Sum.inr p0.1 : Key) with
            | none => rfl
            | some y =>
              have h1 := valV_in q
              obtain ⟨pp, hpp, epp⟩ := List.mem_map.mp h1
              have h2 := dropK_mem hpp
              obtain ⟨j, hj⟩ := List.getElem?_of_mem h2
              rw [List.getElem?_take] at hj
              split at hj
              · rename_i hji
                have h4 : (kr.map (·.1))[j]? = some (Sum.inr p0.1) := by rw [List.getElem?_map, hj]; show some pp.1 = _; rw [epp]
                have h5 : (kr.map (·.1))[i]? = some (Sum.inr p0.1) := by rw [List.getElem?_map, e0]; show some kr[i].1 = _; rw [show kr[i].1 = Sum.inr p0.1 from ek]
                have := nd_ix ndr h4 h5
                omega
              · cases hj
          rw [putK_new _ hnew]
          show _ ++ [((Sum.inr p0.1 : Key), kr[i].2)] = _ ++ [kr[i]]
          rw [← show kr[i].1 = Sum.inr p0.1 from ek]
    · rintro H2 ⟨hb, hd⟩
      rw [List.take_length] at hd
      refine ⟨hb r _ nD upd_same, ?_⟩
      have sZ : Same H (upd H2 r (.dK kr)) := Same.unlock hrr fun b o nb e => hb b o (ne_of_none e hD0) (by rw [upd_ne nb]; exact e)
      have eZ : (upd H2 r (.dK kr)) D = some (.dK (dropK kr (Sum.inr z : Key))) := by rw [upd_ne nD.symm]; exact hd
      generalize upd H2 r (.dK kr) = HZ at sZ eZ
      refine ⟨_, rfl, a, _, dx, _, _, rfl, sZ _ _ ha, T.c_W, T.a_own_loads, wL _ _ _, _, rfl, _, rfl, a, _, dx, _, _, rfl, sZ _ _ ha, T.c_W, T.a_own_heights, wH _ _ _, rfl, rfl, ?_⟩
      have pd : (dropN mr z).Perm (dropN g.ropes z) := pr.filter _
      have G2 : GvOk ⟨ml, dropN mr z, mh⟩ := gv_perm (made_ok (en := .drop u n z) G eD) pl pd ph
      refine work_new (g := ⟨ml, dropN mr z, mh⟩) ⟨kl, sZ _ _ hl, al.mv (kd_of sZ)⟩ ⟨_, eZ, KvR.drop (ar.mv (kd_of sZ))⟩ ⟨kh, sZ _ _ hhh, ah.mv (kd_of sZ)⟩ G2 fun x H' s' nx Wx => ?_
      exact k2 eD _ H' (sZ.trans s') (wk_perm Wx.at pl pd ph)) (fun _ _ _ _ _ _ us hl => match us, hl with | [_, _], _ => rfl)
end
end K7

set_option Elab.async false
set_option linter.all false
set_option maxRecDepth 100000
set_option maxHeartbeats 2000000
/-! applied. -/
namespace K7
open PySem PySem.Spec PyProof.Rows L2
def En.nm : En → Str
  | .load _ n _ _ => n
  | .rope _ n _ _ _ _ => n
  | .drop _ n _ => n
def En.us : En → Str
  | .load u _ _ _ => u
  | .rope u _ _ _ _ _ => u
  | .drop u _ _ => u
/-! ### data that can be compared -/
def Sh (n : Nat) (d : PyData) : Prop := PyData.canLay0 d = true ∧ PyData.depth d ≤ n
theorem canAll_iff : ∀ {ds : List PyData}, PyData.canLayAll0 ds = true ↔ ∀ d ∈ ds, PyData.canLay0 d = true
  | [] => ⟨fun _ _ h => (by cases h), fun _ => rfl⟩
  | d :: ds => by
    have e : PyData.canLayAll0 (d :: ds) = (PyData.canLay0 d && PyData.canLayAll0 ds) := by simp only [PyData.canLayAll0]
    rw [e, Bool.and_eq_true, canAll_iff, List.forall_mem_cons]
theorem depAll_iff {n : Nat} : ∀ {ds : List PyData}, PyData.depthAll ds ≤ n ↔ ∀ d ∈ ds, PyData.depth d ≤ n
  | [] => ⟨fun _ _ h => (by cases h), fun _ => Nat.zero_le _⟩
  | d :: ds => by
    have e : PyData.depthAll (d :: ds) = max (PyData.depth d) (PyData.depthAll ds) := by simp only [PyData.depthAll]
    rw [e, Nat.max_le, depAll_iff, List.forall_mem_cons]
theorem Sh.tup {n : Nat} {ds : List PyData} (h : ∀ d ∈ ds, Sh n d) : Sh (n + 1) (.tuple ds) := by
  refine ⟨?_, ?_⟩
  · have e : PyData.canLay0 (.tuple ds) = PyData.canLayAll0 ds := by simp only [PyData.canLay0]
    rw [e, canAll_iff]
    exact fun d hd => (h d hd).1
  · have e : PyData.depth (.tuple ds) = PyData.depthAll ds + 1 := by simp only [PyData.depth]
    rw [e]
    exact Nat.succ_le_succ (depAll_iff.mpr fun d hd => (h d hd).2)
theorem Sh.lst {n : Nat} {ds : List PyData} (h : ∀ d ∈ ds, Sh n d) : Sh (n + 1) (.list ds) := by
  refine ⟨?_, ?_⟩
  · have e : PyData.canLay0 (.list ds) = PyData.canLayAll0 ds := by simp only [PyData.canLay0]
    rw [e, canAll_iff]
    exact fun d hd => (h d hd).1
  · have e : PyData.depth (.list ds) = PyData.depthAll ds + 1 := by simp only [PyData.depth]
    rw [e]
    exact Nat.succ_le_succ (depAll_iff.mpr fun d hd => (h d hd).2)
theorem Sh.inv {n : Nat} {ds : List PyData} (h : Sh n (.tuple ds)) {d : PyData} (hd : d ∈ ds) : Sh n d := by
  obtain ⟨h1, h2⟩ := h
  have e : PyData.canLay0 (.tuple ds) = PyData.canLayAll0 ds := by simp only [PyData.canLay0]
  have e2 : PyData.depth (.tuple ds) = PyData.depthAll ds + 1 := by simp only [PyData.depth]
  rw [e, canAll_iff] at h1
  rw [e2] at h2
  exact ⟨h1 d hd, depAll_iff.mp (by omega) d hd⟩
theorem Sh.str {n : Nat} {x : Str} (h : PyData.strOk x = true) : Sh n (.str x) := ⟨by simp only [PyData.canLay0]; exact h, by simp only [PyData.depth]; omega⟩
theorem Sh.strOk {n : Nat} {x : Str} (h : Sh n (.str x)) : PyData.strOk x = true := by
  have := h.1
  simp only [PyData.canLay0] at this
  exact this
theorem Sh.int {n : Nat} (i : Int) : Sh n (.int i) := ⟨by simp only [PyData.canLay0], by simp only [PyData.depth]; omega⟩
theorem Sh.non {n : Nat} : Sh n .none := ⟨by simp only [PyData.canLay0], by simp only [PyData.depth]; omega⟩
theorem Sh.mono {m n : Nat} {d : PyData} (h : Sh m d) (l : m ≤ n) : Sh n d := ⟨h.1, Nat.le_trans h.2 l⟩
theorem Sh.shaped {n : Nat} {d : PyData} (h : Sh n d) (l : n ≤ 64) : SeqAt.shaped d = true := by
  unfold SeqAt.shaped
  rw [h.1, decide_eq_true (Nat.le_trans h.2 l)]
  rfl
theorem Sh.fr (q : Fr) : Sh 1 (dFr q) := Sh.tup fun d hd => by
  simp only [List.mem_cons, List.not_mem_nil, or_false] at hd
  rcases hd with rfl | rfl <;> exact .int _
theorem Sh.path {b : Bool} {ws : List Str} (h : ∀ x ∈ ws, PyData.strOk x = true) : Sh 1 (dPath b ws) := by
  have k : ∀ d ∈ ws.map PyData.str, Sh 0 d := fun d hd => by
    obtain ⟨x, hx, rfl⟩ := List.mem_map.mp hd
    exact .str (h x hx)
  unfold dPath
  split
  · exact .tup k
  · exact .lst k
/-- what an entry must be -/
def EnOk (en : En) : Prop := (en.nm = "one" ∨ en.nm = "two") ∧ (match en with
  | .load _ _ z _ => z.length ≤ 100
  | .rope _ _ z _ ws _ => z.length ≤ 100 ∧ ws.length ≤ 100
  | .drop _ _ z => z.length ≤ 100) ∧ Sh 5 (dEn en)
abbrev S2 := Gv × Gv
def getG (s : S2) (n : Str) : Gv := if n = "one" then s.1 else s.2
def setG (s : S2) (n : Str) (g : Gv) : S2 := if n = "one" then (g, s.2) else (s.1, g)
def S2Ok (s : S2) : Prop := GvOk s.1 ∧ GvOk s.2
def dueS (s : S2) (en : En) : Option Er := due (getG s en.nm) en
def madeS (s : S2) (en : En) : S2 := setG s en.nm (made (getG s en.nm) en)
theorem S2Ok.get {s : S2} (h : S2Ok s) (n : Str) : GvOk (getG s n) := by
  unfold getG
  split
  · exact h.1
  · exact h.2
theorem madeS_ok {s : S2} {en : En} (h : S2Ok s) (e : dueS s en = none) : S2Ok (madeS s en) := by
  have := made_ok (h.get _) e
  unfold madeS setG
  split
  · exact ⟨this, h.2⟩
  · exact ⟨h.1, this⟩
/-- two works by their names -/
def WsAt (K : PySem.W.Frag) (H : Hp) (d : Addr) (s : S2) : Prop := ∃ v1 v2, H d = some (.dK [((Sum.inr "one" : Key), v1), ((Sum.inr "two" : Key), v2)]) ∧ WkAt K H v1 s.1 ∧ WkAt K H v2 s.2
theorem WsAt.mv {K : PySem.W.Frag} {H H' : Hp} {d : Addr} {s : S2} (h : WsAt K H d s) (k : Kd fullO H H') : WsAt K H' d s := by
  obtain ⟨v1, v2, e, h1, h2⟩ := h
  exact ⟨v1, v2, k _ _ e rfl, h1.mv k, h2.mv k⟩
theorem WsAt.up {K : PySem.W.Frag} {H H' : Hp} {d : Addr} {s : S2} (h : WsAt K H d s) (k : Same H H') : WsAt K H' d s := h.mv (kd_of k)
theorem ne_ot : ¬ (("one" : Str) = "two") := by decide +kernel
theorem ne_to : ¬ (("two" : Str) = "one") := by decide +kernel
theorem ne_otK : ¬ ((Sum.inr "one" : Key) = Sum.inr ("two" : Str)) := fun h => ne_ot (Sum.inr.inj h)
theorem ne_toK : ¬ ((Sum.inr "two" : Key) = Sum.inr ("one" : Str)) := fun h => ne_to (Sum.inr.inj h)
theorem val2 {v1 v2 : V} {n : Str} (h : n = "one" ∨ n = "two") : valV [((Sum.inr "one" : Key), v1), ((Sum.inr "two" : Key), v2)] (Sum.inr n : Key) = some (if n = "one" then v1 else v2) := by
  rcases h with rfl | rfl
  · rw [valV_pos rfl, if_pos rfl]
  · rw [valV_neg ne_otK, valV_pos rfl, if_neg ne_to]
theorem put2 {v1 v2 v : V} {n : Str} (h : n = "one" ∨ n = "two") : putK [((Sum.inr "one" : Key), v1), ((Sum.inr "two" : Key), v2)] (Sum.inr n : Key) v = [((Sum.inr "one" : Key), if n = "one" then v else v1), ((Sum.inr "two" : Key), if n = "one" then v2 else v)] := by
  unfold putK
  rw [valV_any, val2 h, Option.isSome_some, if_pos rfl]
  rcases h with rfl | rfl
  · rw [if_pos rfl, if_pos rfl]
    show [if (Sum.inr ("one" : Str) : Key) = Sum.inr ("one" : Str) then _ else _, if (Sum.inr ("two" : Str) : Key) = Sum.inr ("one" : Str) then _ else _] = _
    rw [if_pos rfl, if_neg ne_toK]
  · rw [if_neg ne_to, if_neg ne_to]
    show [if (Sum.inr ("one" : Str) : Key) = Sum.inr ("two" : Str) then _ else _, if (Sum.inr ("two" : Str) : Key) = Sum.inr ("two" : Str) then _ else _] = _
    rw [if_neg ne_otK, if_pos rfl]
def enD : En → List PyData
  | .load u n z q => [.str u, .str n, .str "load", .str z, dFr q]
  | .rope u n z b ws q => [.str u, .str n, .str "rope", .str z, dPath b ws, dFr q]
  | .drop u n z => [.str u, .str n, .str "drop", .str z]
/-- the items of an entry's tuple -/
def EnV (H : Hp) (xs : List V) : En → Prop
  | .load u n z q => ∃ vq, xs = [.str u, .str n, .str "load", .str z, vq] ∧ Dt H vq (dFr q)
  | .rope u n z b ws q => ∃ vp vq, xs = [.str u, .str n, .str "rope", .str z, vp, vq] ∧ Dt H vp (dPath b ws) ∧ Dt H vq (dFr q)
  | .drop u n z => xs = [.str u, .str n, .str "drop", .str z]
theorem dEn_inv {H : Hp} {v : V} {en : En} (h : Dt H v (dEn en)) : ∃ a xs, v = .ref a ∧ H a = some (.tup xs) ∧ EnV H xs en := by
  cases en with
  | load u n z q =>
    cases h with
    | tup e t =>
      cases t with
      | cons h1 t =>
        cases t with
        | cons h2 t =>
          cases t with
          | cons h3 t =>
            cases t with
            | cons h4 t =>
              cases t with
              | cons h5 t =>
                cases t
                cases h1
                cases h2
                cases h3
                cases h4
                exact ⟨_, _, rfl, e, _, rfl, h5⟩
  | rope u n z b ws q =>
    cases h with
    | tup e t =>
      cases t with
      | cons h1 t =>
        cases t with
        | cons h2 t =>
          cases t with
          | cons h3 t =>
            cases t with
            | cons h4 t =>
              cases t with
              | cons h5 t =>
                cases t with
                | cons h6 t =>
                  cases t
                  cases h1
                  cases h2
                  cases h3
                  cases h4
                  exact ⟨_, _, rfl, e, _, _, rfl, h5, h6⟩
  | drop u n z =>
    cases h with
    | tup e t =>
      cases t with
      | cons h1 t =>
        cases t with
        | cons h2 t =>
          cases t with
          | cons h3 t =>
            cases t with
            | cons h4 t =>
              cases t
              cases h1
              cases h2
              cases h3
              cases h4
              exact ⟨_, _, rfl, e, rfl⟩
def spApplied (K : PySem.W.Frag) : Sp := fun vs H Q E => ∃ (d : Addr) (v : V) (s : S2) (en : En), vs = [.ref d, v] ∧ WsAt K H d s ∧ S2Ok s ∧ Dt H v (dEn en) ∧ EnOk en ∧ (∀ er, dueS s en = some er → RsE K er H E) ∧
  (dueS s en = none → ∀ d' H', Same H H' → WsAt K H' d' (madeS s en) → Q (.ref d') H')
theorem ne_lr : ¬ (("rope" : Str) = "load") := by decide +kernel
theorem ne_dl : ¬ (("drop" : Str) = "load") := by decide +kernel
theorem ne_dr : ¬ (("drop" : Str) = "rope") := by decide +kernel
theorem ne_str {x y : Str} (h : ¬ x = y) : decide (V.str x = V.str y) = false := decide_eq_false fun q => h (by injection q)
section
variable {P : Program} {w : World} {K : PySem.W.Frag} {mg : Str → Option Value} {base : Heap}
theorem cal_applied (T : TX P K mg) : Cal P w K mg base (CX P w) 8 "applied" (spApplied K) := T.g_applied.cal (ps := ["works", "entry"]) (fun f fd F => by
  refine F.okX c_applied (fun vs H Q E h => ?_) (fun cdv A outer s H vs Q E hr h => ?_)
  · obtain ⟨d, v, st, en, rfl, _⟩ := h
    rfl
  · obtain ⟨d, v, st, en, rfl, W, O, dv, eo, k1, k2⟩ := h
    have nd := c_applied.nd
    have hu := hu_of hr
    obtain ⟨a, xs, rfl, ha, ex⟩ := dEn_inv dv
    obtain ⟨v1, v2, hd, W1, W2⟩ := id W
    refine ⟨_, pss_cons (ps_par3 (i := 2) (j := 3) (l := 4) rfl nd rfl rfl rfl (by decide) (by decide) (by decide) rfl rfl rfl (pa_cons (pe_ix ix_tup (pv 1) pe_int (fun _ _ => rfl)) (pa_cons (pe_ix ix_tup (pv 1) pe_int (fun _ _ => rfl)) (pa_cons (pe_slice sl_tupA (pv 1) (po_some pe_int) po_none) pa_nil))) (by rfl))
      (pss_cons (ps_set (i := 5) nd rfl (Or.inl rfl) (pe_dget hu (pv 0) (pv 2) (fun _ _ => rfl)))
      (pss_cut (ps_if (pt_cmpR op_eq (pv 3) pe_str (nomark _))
          (pss_one (ps_set (i := 6) nd rfl (Or.inl rfl) (pe_calM (pv 5) T.c_W (cal_with_load T) hr (passes_call (takes_of rfl rfl rfl rfl) (fun _ _ _ _ h => h)) (pa_cons (pe_ix ix_tup (pv 4) pe_int (fun _ _ => rfl)) (pa_cons (pe_ix ix_tup (pv 4) pe_int (fun _ _ => rfl)) pa_nil)))))
          (pss_one (ps_if (pt_cmpR op_eq (pv 3) pe_str (nomark _))
            (pss_one (ps_set (i := 6) nd rfl (Or.inl rfl) (pe_calM (pv 5) T.c_W (cal_with_rope T) hr (passes_call (takes_of rfl rfl rfl rfl) (fun _ _ _ _ h => h)) (pa_cons (pe_ix ix_tup (pv 4) pe_int (fun _ _ => rfl)) (pa_cons (pe_ix ix_tup (pv 4) pe_int (fun _ _ => rfl)) (pa_cons (pe_ix ix_tup (pv 4) pe_int (fun _ _ => rfl)) pa_nil))))))
            (pss_one (ps_set (i := 6) nd rfl (Or.inl rfl) (pe_calM (pv 5) T.c_W (cal_without_rope T) hr (passes_call (takes_of rfl rfl rfl rfl) (fun _ _ _ _ h => h)) (pa_cons (pe_ix ix_tup (pv 4) pe_int (fun _ _ => rfl)) pa_nil)))))))
      (pss_one (ps_ret (pe_dmerge (pv 0) (pv 2) (pv 6)))))), ?_⟩
    -- name and work, whatever the word
    have hn := eo.1
    have wk : ∃ aw fs dx, (if en.nm = "one" then v1 else v2) = .ref aw ∧ H aw = some (.ins (ga K "Work") dx fs) ∧ fs.lookup ("with_load" : Str) = none ∧ fs.lookup ("with_rope" : Str) = none ∧ fs.lookup ("without_rope" : Str) = none ∧ WkAt K H (.ref aw) (getG st en.nm) := by
      have hw : WkAt K H (if en.nm = "one" then v1 else v2) (getG st en.nm) := by
        unfold getG
        split
        · exact W1
        · exact W2
      obtain ⟨aw, dx, l, hh, r, ml, mh, mr, ea, e, rest⟩ := id hw
      rw [ea] at hw
      exact ⟨aw, workFs l hh r, dx, ea, e, wkm (by decide +kernel) (by decide +kernel) (by decide +kernel), wkm (by decide +kernel) (by decide +kernel) (by decide +kernel), wkm (by decide +kernel) (by decide +kernel) (by decide +kernel), hw⟩
    obtain ⟨aw, fs, dx, ew, haw, n1, n2, n3, Ww⟩ := wk
    have G := O.get en.nm
    have fin : ∀ (p : Addr) (x3 x4 : V) (s' : Hp), p = p → True := fun _ _ _ _ _ => True.intro
    clear fin
    have dg : DGet H d (.str en.nm) (some (.ref aw)) := by
      have := DGet.k (k := (Sum.inr en.nm : Key)) hd
      rw [val2 hn, ew] at this
      exact this
    have Mid : ∀ (σ' : St) (H' : Hp), (∃ (x3 x4 vc : V), σ' = [some (.ref d), some (.ref a), some (.str en.nm), some x3, some x4, some (.ref aw), some vc] ∧ Same H H' ∧ dueS st en = none ∧ WkAt K H' vc (made (getG st en.nm) en)) →
        tRet (tMerge (tVar 0) (tVar 2) (tVar 6)) { nx := fun _ H' => Q .non H', rt := Q } σ' H' := by
      rintro σ' H' ⟨x3, x4, vc, rfl, s', e, Wc⟩
      have hd' : H' d = some (.dK [((Sum.inr "one" : Key), v1), ((Sum.inr "two" : Key), v2)]) := s' _ _ hd
      intro p hp
      have npd : p ≠ d := (ne_of_none hd' hp).symm
      refine ⟨_, rfl, d, _, rfl, .inl (by rw [upd_ne npd.symm]; exact hd'), npd, upd_same, fun q hq => ?_⟩
      obtain ⟨m1, m2, m3, m4⟩ := mrg (k := Sum.inr en.nm) (z := vc) hp hq (Same.refl _)
      refine ⟨_, rfl, _, rfl, Sum.inr en.nm, rfl, m2, m3, m1, by show 3 ≤ sizeLine; decide, ?_⟩
      rw [put2 hn] at m4 ⊢
      generalize hZ : upd (upd _ q (.dK [((Sum.inr en.nm : Key), vc)])) p (.dK [((Sum.inr ("one" : Str) : Key), if en.nm = "one" then vc else v1), ((Sum.inr ("two" : Str) : Key), if en.nm = "one" then v2 else vc)]) = HZ at m4 ⊢
      have eZ : HZ p = some (.dK [((Sum.inr ("one" : Str) : Key), if en.nm = "one" then vc else v1), ((Sum.inr ("two" : Str) : Key), if en.nm = "one" then v2 else vc)]) := by rw [← hZ]; exact upd_same
      clear hZ
      have WcZ := Wc.up m4
      have W1Z := W1.up (s'.trans m4)
      have W2Z := W2.up (s'.trans m4)
      refine k2 e p _ (s'.trans m4) ⟨_, _, eZ, ?_, ?_⟩
      · unfold madeS setG
        split
        · exact WcZ
        · exact W1Z
      · unfold madeS setG
        split
        · exact W2Z
        · exact WcZ
    cases en with
    | load u n z q =>
      obtain ⟨vq, rfl, dq⟩ := ex
      refine ⟨_, rfl, a, _, _, _, rfl, rfl, SqT.of ha, rfl, _, rfl, a, _, _, _, rfl, rfl, SqT.of ha, rfl, _, rfl, _, rfl, a, _, rfl, SqT.of ha, (fun zz => absurd zz.1 (show ¬ (HT.sIx 5 0 (some 3) = 0) by decide)), fun _ p hp => ?_⟩
      have s1 : Same H _ := same1 hp (.tup (cutV [.str u, .str n, .str "load", .str z, vq] (some 3) none))
      have ep : (upd H p (.tup (cutV [.str u, .str n, .str "load", .str z, vq] (some 3) none))) p = some (.tup [.str z, vq]) := upd_same
      refine ⟨_, _, _, rfl, _, rfl, _, rfl, d, .ref aw, rfl, ?_, ?_⟩
      · rcases dg with ⟨kvs, k, r, e1, e2⟩ | ⟨kvs, k, b, r, _⟩
        · rcases r with r | ⟨o, r⟩
          · exact .inl ⟨kvs, k, .inl (s1 _ _ r), e1, e2⟩
          · exact .inl ⟨kvs, k, .inr ⟨o, s1 _ _ r⟩, e1, e2⟩
        · rcases r with r | ⟨o, r⟩ <;> rw [hd] at r <;> cases r
      refine ⟨_, ?_, Mid⟩
      refine ⟨_, rfl, rfl, _, rfl, ?_⟩
      rw [decide_eq_true rfl]
      refine iteT ?_
      refine ⟨_, rfl, aw, dx, fs, rfl, s1 _ _ haw, n1, _, rfl, p, _, _, _, rfl, rfl, SqT.of ep, rfl, _, rfl, p, _, _, _, rfl, rfl, SqT.of ep, rfl, ?_⟩
      exact ⟨aw, getG st n, u, n, z, q, vq, rfl, Ww.up s1, G, dq.up s1, fun er e => (k1 er e).up s1, fun e v' H' s2 W' => ⟨_, _, v', rfl, s1.trans s2, e, W'⟩⟩
    | rope u n z b ws q =>
      obtain ⟨vp, vq, rfl, dp, dq⟩ := ex
      refine ⟨_, rfl, a, _, _, _, rfl, rfl, SqT.of ha, rfl, _, rfl, a, _, _, _, rfl, rfl, SqT.of ha, rfl, _, rfl, _, rfl, a, _, rfl, SqT.of ha, (fun zz => absurd zz.1 (show ¬ (HT.sIx 6 0 (some 3) = 0) by decide)), fun _ p hp => ?_⟩
      have s1 : Same H _ := same1 hp (.tup (cutV [.str u, .str n, .str "rope", .str z, vp, vq] (some 3) none))
      have ep : (upd H p (.tup (cutV [.str u, .str n, .str "rope", .str z, vp, vq] (some 3) none))) p = some (.tup [.str z, vp, vq]) := upd_same
      refine ⟨_, _, _, rfl, _, rfl, _, rfl, d, .ref aw, rfl, ?_, ?_⟩
      · rcases dg with ⟨kvs, k, r, e1, e2⟩ | ⟨kvs, k, b, r, _⟩
        · rcases r with r | ⟨o, r⟩
          · exact .inl ⟨kvs, k, .inl (s1 _ _ r), e1, e2⟩
          · exact .inl ⟨kvs, k, .inr ⟨o, s1 _ _ r⟩, e1, e2⟩
        · rcases r with r | ⟨o, r⟩ <;> rw [hd] at r <;> cases r
      refine ⟨_, ?_, Mid⟩
      refine ⟨_, rfl, rfl, _, rfl, ?_⟩
      rw [ne_str ne_lr]
      refine iteF ?_
      refine ⟨_, rfl, rfl, _, rfl, ?_⟩
      rw [decide_eq_true rfl]
      refine iteT ?_
      refine ⟨_, rfl, aw, dx, fs, rfl, s1 _ _ haw, n2, _, rfl, p, _, _, _, rfl, rfl, SqT.of ep, rfl, _, rfl, p, _, _, _, rfl, rfl, SqT.of ep, rfl, _, rfl, p, _, _, _, rfl, rfl, SqT.of ep, rfl, ?_⟩
      exact ⟨aw, getG st n, u, n, z, b, ws, q, vp, vq, rfl, Ww.up s1, G, eo.2.1.1, eo.2.1.2, dp.up s1, dq.up s1, fun er e => (k1 er e).up s1, fun e v' H' s2 W' => ⟨_, _, v', rfl, s1.trans s2, e, W'⟩⟩
    | drop u n z =>
      obtain rfl := ex
      refine ⟨_, rfl, a, _, _, _, rfl, rfl, SqT.of ha, rfl, _, rfl, a, _, _, _, rfl, rfl, SqT.of ha, rfl, _, rfl, _, rfl, a, _, rfl, SqT.of ha, (fun zz => absurd zz.1 (show ¬ (HT.sIx 4 0 (some 3) = 0) by decide)), fun _ p hp => ?_⟩
      have s1 : Same H _ := same1 hp (.tup (cutV [.str u, .str n, .str "drop", .str z] (some 3) none))
      have ep : (upd H p (.tup (cutV [.str u, .str n, .str "drop", .str z] (some 3) none))) p = some (.tup [.str z]) := upd_same
      refine ⟨_, _, _, rfl, _, rfl, _, rfl, d, .ref aw, rfl, ?_, ?_⟩
      · rcases dg with ⟨kvs, k, r, e1, e2⟩ | ⟨kvs, k, b, r, _⟩
        · rcases r with r | ⟨o, r⟩
          · exact .inl ⟨kvs, k, .inl (s1 _ _ r), e1, e2⟩
          · exact .inl ⟨kvs, k, .inr ⟨o, s1 _ _ r⟩, e1, e2⟩
        · rcases r with r | ⟨o, r⟩ <;> rw [hd] at r <;> cases r
      refine ⟨_, ?_, Mid⟩
      refine ⟨_, rfl, rfl, _, rfl, ?_⟩
      rw [ne_str ne_dl]
      refine iteF ?_
      refine ⟨_, rfl, rfl, _, rfl, ?_⟩
      rw [ne_str ne_dr]
      refine iteF ?_
      refine ⟨_, rfl, aw, dx, fs, rfl, s1 _ _ haw, n3, _, rfl, p, _, _, _, rfl, rfl, SqT.of ep, rfl, ?_⟩
      exact ⟨aw, getG st n, u, n, z, rfl, Ww.up s1, G, fun er e => (k1 er e).up s1, fun e v' H' s2 W' => ⟨_, _, v', rfl, s1.trans s2, e, W'⟩⟩) (fun _ _ _ _ _ _ us hl => match us, hl with | [_, _], _ => rfl)
end
end K7

set_option Elab.async false
set_option linter.all false
set_option maxRecDepth 100000
set_option maxHeartbeats 2000000
/-! Dicts of data compared; a work's ==. -/
namespace K7
open PySem PySem.Spec PyProof.Rows L2
section
variable {X : Cx} {κ : Type} [DecidableEq κ]
theorem hits_data {pins : List (Addr × Obj)} {σ : St} {H : Hp} {s : Shared} {A : Around} (I : Inv X pins σ H s) (hu : A.in1.units + 64 < cLine) {kvs : List (Key × V)} {vb : List (Key × Value)} (rb : KV kvs vb) {ks : List (Key × V)} {va : List (Key × Value)} (ra : KV ks va) :
    (∀ p ∈ ks, ∃ v d, valV kvs p.1 = some v ∧ Dt H p.2 d ∧ Dt H v d ∧ SeqAt.shaped d = true) → PySem.W.KeqHits A.in1 s vb va true := by
  unfold KV at ra
  induction ra with
  | nil => intro _; exact .nil
  | @cons p q ps qs h t ih =>
    intro hp
    obtain ⟨h1, h2⟩ := h
    obtain ⟨v, d, e, d1, d2, sd⟩ := hp p List.mem_cons_self
    have rr : RelO (some v) (valueAt vb p.1) := by rw [← e]; exact rb.val p.1
    obtain ⟨y, hy, ry⟩ := rr.some_of
    obtain ⟨k, u⟩ := q
    have h1' : p.1 = k := h1
    rw [h1'] at hy
    obtain ⟨as, r1⟩ := Dp.reads I d p.2 u (d1.dp (K := X.K)) h2
    obtain ⟨bs, r2⟩ := Dp.reads I d v y (d2.dp (K := X.K)) ry
    have q := PySem.W.keq_at (A := A) r1 r2 sd sd hu
    rw [SeqAt.eqv_refl d (SeqAt.canLay_of_shaped sd)] at q
    show PySem.W.KeqHits A.in1 s vb ((k, u) :: qs) (true && true)
    exact .hit hy q (ih fun p' hm => hp p' (List.mem_cons_of_mem _ hm))
/-- two dicts of the same data -/
def SameD (H : Hp) (a b : Addr) : Prop := ∃ ks ls, H a = some (.dK ks) ∧ H b = some (.dK ls) ∧ ks.length = ls.length ∧ ∀ p ∈ ks, ∃ v d, valV ls p.1 = some v ∧ Dt H p.2 d ∧ Dt H v d ∧ SeqAt.shaped d = true
def rEqDD : R2 := fun x y H Q => ∃ a b, x = .ref a ∧ y = .ref b ∧ SameD H a b ∧ Q (.bl true) H
def rNeDD : R2 := fun x y H Q => ∃ a b, x = .ref a ∧ y = .ref b ∧ SameD H a b ∧ Q (.bl false) H
theorem op_eqDD (hu : X.A.in1.units + 64 < cLine) (hu0 : X.A.units < cLine) : OpR X (compareOp .Eq) rEqDD := by
  intro pins s σ H x y v u Q I rx ry h
  obtain ⟨a, b, rfl, rfl, ⟨ks, ls, ea, eb, hlen, hp⟩, q⟩ := h
  obtain rfl : v = Value.ref a := rx
  obtain rfl : u = Value.ref b := ry
  obtain ⟨_, ya, va, ra, da⟩ := (show ObjOk X.prog X.w H s.heap a (.dK ks) from I.hok a _ ea)
  obtain ⟨_, yb, vb, rb, db⟩ := (show ObjOk X.prog X.w H s.heap b (.dK ls) from I.hok b _ eb)
  have hl : va.length = vb.length := by rw [← ra.length, ← rb.length]; exact hlen
  exact PySem.W.keq_eq (knd := mixKind X.prog X.w) (r := true) ya yb da db hu0 (fun _ => hits_data I hu rb ra hp) (fin_bl I q (by simp [hl]))
theorem op_neDD (hu : X.A.in1.units + 64 < cLine) (hu0 : X.A.units < cLine) : OpR X (compareOp .NotEq) rNeDD := by
  intro pins s σ H x y v u Q I rx ry h
  obtain ⟨a, b, rfl, rfl, ⟨ks, ls, ea, eb, hlen, hp⟩, q⟩ := h
  obtain rfl : v = Value.ref a := rx
  obtain rfl : u = Value.ref b := ry
  obtain ⟨_, ya, va, ra, da⟩ := (show ObjOk X.prog X.w H s.heap a (.dK ks) from I.hok a _ ea)
  obtain ⟨_, yb, vb, rb, db⟩ := (show ObjOk X.prog X.w H s.heap b (.dK ls) from I.hok b _ eb)
  have hl : va.length = vb.length := by rw [← ra.length, ← rb.length]; exact hlen
  exact PySem.W.keq_ne (knd := mixKind X.prog X.w) (r := true) ya yb da db hu0 (fun _ => hits_data I hu rb ra hp) (fin_bl I q (by simp [hl]))
end
theorem look_perm {α : Type} {m m' : List (Str × α)} (p : m'.Perm m) (n : (keys m).Nodup) (k : Str) : m'.lookup k = m.lookup k := by
  by_cases h : k ∈ keys m
  · obtain ⟨x, ex⟩ := look_some h
    obtain ⟨y, ey⟩ := look_some ((keys_perm p).mpr h)
    rw [ex, ey]
    have h1 := p.mem_iff.mp (look_mem ey)
    have h2 := look_mem ex
    obtain ⟨i, hi⟩ := List.getElem?_of_mem h1
    obtain ⟨j, hj⟩ := List.getElem?_of_mem h2
    have e1 : (keys m)[i]? = some k := by unfold keys; rw [List.getElem?_map, hi]; rfl
    have e2 : (keys m)[j]? = some k := by unfold keys; rw [List.getElem?_map, hj]; rfl
    have := nd_ix n e1 e2
    subst this
    rw [hi] at hj
    cases hj
    rfl
  · rw [look_none h, look_none fun z => h ((keys_perm p).mp z)]
theorem mem_look {α : Type} {m : List (Str × α)} (n : (keys m).Nodup) {p : Str × α} (h : p ∈ m) : m.lookup p.1 = some p.2 := by
  obtain ⟨y, ey⟩ := look_some (m := m) (n := p.1) (List.mem_map_of_mem h)
  obtain ⟨i, hi⟩ := List.getElem?_of_mem (look_mem ey)
  obtain ⟨j, hj⟩ := List.getElem?_of_mem h
  have e1 : (keys m)[i]? = some p.1 := by unfold keys; rw [List.getElem?_map, hi]; rfl
  have e2 : (keys m)[j]? = some p.1 := by unfold keys; rw [List.getElem?_map, hj]; rfl
  have := nd_ix n e1 e2
  subst this
  rw [hi] at hj
  have e3 : y = p.2 := congrArg Prod.snd (Option.some.inj hj)
  rw [← e3]
  exact ey
/-- dicts of lists that are one list but for the order -/
theorem sameD_of {α : Type} {enc : α → PyData} {H : Hp} {a b : Addr} {m m' : List (Str × α)} (h1 : DA enc H a m) (h2 : DA enc H b m') (p : m.Perm m') (n : (keys m').Nodup) (sh : ∀ q ∈ m, SeqAt.shaped (enc q.2) = true) : SameD H a b := by
  obtain ⟨ks, e1, r1⟩ := h1
  obtain ⟨ls, e2, r2⟩ := h2
  refine ⟨ks, ls, e1, e2, r1.length.trans (p.length_eq.trans r2.length.symm), fun q hq => ?_⟩
  obtain ⟨i, hi⟩ := List.getElem?_of_mem hq
  obtain ⟨z, ez, h1, h2⟩ := r1.get hi
  have hz := List.mem_of_getElem? ez
  have hl : m'.lookup z.1 = some z.2 := mem_look n (p.mem_iff.mp hz)
  obtain ⟨v, ev, dv⟩ := r2.val hl
  exact ⟨v, _, by rw [show q.1 = Sum.inr z.1 from h1]; exact ev, h2, dv, sh z hz⟩
theorem SameD.up {H H' : Hp} {a b : Addr} (h : SameD H a b) (s : Same H H') : SameD H' a b := by
  obtain ⟨ks, ls, e1, e2, l, p⟩ := h
  refine ⟨ks, ls, s _ _ e1, s _ _ e2, l, fun q hq => ?_⟩
  obtain ⟨v, d, h1, h2, h3, h4⟩ := p q hq
  exact ⟨v, d, h1, h2.up s, h3.up s, h4⟩
theorem strOk_of {L z : Str} (hL : PyData.strOk L = true) (h : WordB L z = true) : PyData.strOk z = true := by
  unfold WordB at h
  rw [Bool.and_eq_true] at h
  have h2 := List.all_eq_true.mp h.2
  unfold PyData.strOk at hL ⊢
  rw [Array.all_eq_true'] at hL ⊢
  intro c hc
  have h3 := h2 c (by simpa using hc)
  have h4 : c ∈ L.cps.toList := of_decide_eq_true h3
  exact hL c (by simpa using h4)
theorem strOk_name {z : Str} (h : NameB z = true) : PyData.strOk z = true := strOk_of (by decide +kernel) h
theorem strOk_great {z : Str} (h : GreatB z = true) : PyData.strOk z = true := strOk_of (by decide +kernel) h
theorem pts_ok {g : Gv} (G : GvOk g) {x : Str} (h : x ∈ pts g) : PyData.strOk x = true := by
  unfold pts at h
  rw [List.mem_append] at h
  rcases h with h | h
  · obtain ⟨p, hp, rfl⟩ := List.mem_map.mp h
    exact strOk_name (G.okl p hp).1
  · obtain ⟨p, hp, rfl⟩ := List.mem_map.mp h
    exact strOk_great (G.okf p hp).1
theorem path_ok {ps : List Str} (hp : ∀ x ∈ ps, PyData.strOk x = true) {b : Bool} {ws : List Str} (h : PathB ps b ws = true) : ∀ x ∈ ws, PyData.strOk x = true := by
  unfold PathB at h
  simp only [Bool.and_eq_true, decide_eq_true_eq] at h
  obtain ⟨hb, h1, h2, h3, h4, h5⟩ := h
  intro x hx
  obtain ⟨i, hi⟩ := List.getElem?_of_mem hx
  rcases Nat.mod_two_eq_zero_or_one i with e | e
  · have hm : x ∈ altS 0 ws := (mem_altS (Nat.zero_le _)).mpr ⟨i / 2, by rw [show 0 + 2 * (i / 2) = i by omega]; exact hi⟩
    exact hp x (of_decide_eq_true (List.all_eq_true.mp h4 x hm))
  · have hm : x ∈ altS 1 ws := (mem_altS (by omega)).mpr ⟨i / 2, by rw [show 1 + 2 * (i / 2) = i by omega]; exact hi⟩
    have := of_decide_eq_true (List.all_eq_true.mp h5 x hm)
    unfold DIRS at this
    simp only [List.mem_cons, List.not_mem_nil, or_false] at this
    rcases this with rfl | rfl <;> decide +kernel
theorem rope_sh {g : Gv} (G : GvOk g) {r : Rp} (h : RopeB (pts g) r = true) : Sh 2 (dRp r) := by
  unfold RopeB at h
  rw [Bool.and_eq_true] at h
  refine Sh.tup fun d hd => ?_
  simp only [List.mem_cons, List.not_mem_nil, or_false] at hd
  rcases hd with rfl | rfl
  · exact .path (path_ok (fun x hx => pts_ok G hx) h.1)
  · exact .fr _
theorem kit_same {K : PySem.W.Frag} {C : Value} : PySem.W.kitOne K C C = some true := by
  unfold PySem.W.kitOne
  simp
/-- the two works are of one -/
def SameW (K : PySem.W.Frag) (a b : Addr) (H : Hp) : Prop := ∃ g, GvOk g ∧ WkAt K H (.ref a) g ∧ WkAt K H (.ref b) g
section
variable {P : Program} {w : World} {K : PySem.W.Frag} {mg : Str → Option Value} {base : Heap}
theorem cal_work_eq (T : TX P K mg) : CalM P w K mg base CX0 2 (ga K "Work") "__eq__" (spEq (SameW K)) := T.m_Work_eq.cal (ps := ["self", "other"]) (fun f fd F => by
  refine F.ok c_Work_eq (fun vs H Q E h => ?_) (fun cdv A outer s H vs Q E hr h => ?_)
  · obtain ⟨a, b, rfl, _⟩ := h
    rfl
  · obtain ⟨a, b, rfl, ⟨g, G, W1, W2⟩, k⟩ := h
    have hu0 := hr.units0
    have hu1 : (A.deeper (envOfC "Work.__eq__" (defScope s_Work_eq) s.heap.objs.size f cdv)).in1.units + 64 < cLine := (hr.in1).units
    refine ⟨_, pss_cons (ps_if (PW.pt (pw_or (pt_not (pt_val (pe_callB call_isi (by rfl) T.f_isinstance boot_isinstance (pa_cons (pv 1) (pa_cons (pe_glob (v := .ref (ga K "Work")) rfl T.g_W rfl) pa_nil)))))
          (pw_or1 (pt_cmpR (op_neDD hu1 hu0) (pe_fld (pv 0) rfl) (pe_fld (pv 1) rfl) (nomark _))))) (pss_one (ps_ret pe_bl)) pss_nil)
      (pss_one (ps_ret (pe_and (pe_cmpR (op_eqDD hu1 hu0) (pe_fld (pv 0) rfl) (pe_fld (pv 1) rfl) (nomark _)) (pe_one (pe_cmpR (op_eqDD hu1 hu0) (pe_fld (pv 0) rfl) (pe_fld (pv 1) rfl) (nomark _)))))), ?_⟩
    obtain ⟨a', dx, l, h, r, ml, mh, mr, ea', ha, dl, dh, dr, pl, ph, pr⟩ := W1
    cases ea'
    obtain ⟨b', dy, l', h', r', ml', mh', mr', eb', hb, dl', dh', dr', pl', ph', pr'⟩ := W2
    cases eb'
    have nl' : (keys ml').Nodup := (pl'.map _).nodup_iff.mpr G.nl
    have nh' : (keys mh').Nodup := (ph'.map _).nodup_iff.mpr G.nf
    have nr' : (keys mr').Nodup := (pr'.map _).nodup_iff.mpr G.nr
    have SL := sameD_of dl dl' (pl.trans pl'.symm) nl' fun q _ => (Sh.fr q.2).shaped (by decide)
    have SH := sameD_of dh dh' (ph.trans ph'.symm) nh' fun q _ => (Sh.fr q.2).shaped (by decide)
    have SR := sameD_of dr dr' (pr.trans pr'.symm) nr' fun q hq => (rope_sh G (G.okr q (pr.mem_iff.mp hq)).2).shaped (by decide)
    refine ⟨_, rfl, _, _, _, _, true, rfl, .own _, .base (.ins hb T.c_W T.w_ha T.w_hn T.w_htk T.w_hm), kit_same, _, rfl, iteF ?_⟩
    refine ⟨_, rfl, a, _, dx, _, _, rfl, ha, T.c_W, T.a_own_loads, wL _ _ _, _, rfl, b, _, dy, _, _, rfl, hb, T.c_W, T.a_own_loads, wL _ _ _, l, l', rfl, rfl, SL, _, rfl, iteF ?_⟩
    refine ⟨_, rfl, a, _, dx, _, _, rfl, ha, T.c_W, T.a_own_ropes, wR _ _ _, _, rfl, b, _, dy, _, _, rfl, hb, T.c_W, T.a_own_ropes, wR _ _ _, r, r', rfl, rfl, SR, _, rfl, iteT ?_⟩
    exact ⟨_, rfl, a, _, dx, _, _, rfl, ha, T.c_W, T.a_own_heights, wH _ _ _, _, rfl, b, _, dy, _, _, rfl, hb, T.c_W, T.a_own_heights, wH _ _ _, h, h', rfl, rfl, SH, k H (Same.refl H)⟩) (fun _ _ _ _ _ _ us hl => match us, hl with | [_, _], _ => rfl)
end
end K7

set_option Elab.async false
set_option linter.all false
set_option maxRecDepth 100000
set_option maxHeartbeats 2000000
/-! A workshop: its making, names, entries, work. -/
namespace K7
open PySem PySem.Spec PyProof.Rows L2
def shopFs (fw ow oe : Addr) : List (Str × V) := [("first_works", .ref fw), ("own_works", .ref ow), ("own_entries", .ref oe)]
theorem nf12 : ¬ (("first_works" : Str) = "own_works") := by decide +kernel
theorem nf13 : ¬ (("first_works" : Str) = "own_entries") := by decide +kernel
theorem nf23 : ¬ (("own_works" : Str) = "own_entries") := by decide +kernel
theorem sf1 (l : Addr) : putF "first_works" (.ref l) ([] : List (Str × V)) = ([("first_works", .ref l)] : List (Str × V)) := rfl
theorem sf2 (l h : Addr) : putF "own_works" (.ref h) ([("first_works", .ref l)] : List (Str × V)) = ([("first_works", .ref l), ("own_works", .ref h)] : List (Str × V)) := by
  show (if ("first_works" : Str) = "own_works" then _ else (("first_works" : Str), V.ref l) :: putF "own_works" (V.ref h) []) = _
  rw [if_neg nf12]
  rfl
theorem sf3 (l h r : Addr) : putF "own_entries" (.ref r) ([("first_works", .ref l), ("own_works", .ref h)] : List (Str × V)) = shopFs l h r := by
  show (if ("first_works" : Str) = "own_entries" then _ else (("first_works" : Str), V.ref l) :: (if ("own_works" : Str) = "own_entries" then _ else (("own_works" : Str), V.ref h) :: putF "own_entries" (V.ref r) [])) = _
  rw [if_neg nf13, if_neg nf23]
  rfl
theorem sW (l h r q : Addr) : putF "own_works" (.ref q) (shopFs l h r) = shopFs l q r := by
  show (if ("first_works" : Str) = "own_works" then _ else (("first_works" : Str), V.ref l) :: (if ("own_works" : Str) = "own_works" then (("own_works" : Str), V.ref q) :: [(("own_entries" : Str), V.ref r)] else _)) = _
  rw [if_neg nf12, if_pos rfl]
  rfl
theorem sE (l h r q : Addr) : putF "own_entries" (.ref q) (shopFs l h r) = shopFs l h q := by
  show (if ("first_works" : Str) = "own_entries" then _ else (("first_works" : Str), V.ref l) :: (if ("own_works" : Str) = "own_entries" then _ else (("own_works" : Str), V.ref h) :: (if ("own_entries" : Str) = "own_entries" then (("own_entries" : Str), V.ref q) :: [] else _))) = _
  rw [if_neg nf13, if_neg nf23, if_pos rfl]
  rfl
theorem lF (l h r : Addr) : (shopFs l h r).lookup ("first_works" : Str) = some (.ref l) := lk3a
theorem lW (l h r : Addr) : (shopFs l h r).lookup ("own_works" : Str) = some (.ref h) := lk3b (by decide +kernel)
theorem lE (l h r : Addr) : (shopFs l h r).lookup ("own_entries" : Str) = some (.ref r) := lk3c (by decide +kernel) (by decide +kernel)
theorem lN {l h r : Addr} {m : Str} (h1 : (m == "first_works") = false) (h2 : (m == "own_works") = false) (h3 : (m == "own_entries") = false) : (shopFs l h r).lookup m = none := lk3n h1 h2 h3
theorem l2F (l : Addr) : List.lookup ("first_works" : Str) ([("first_works", .ref l)] : List (Str × V)) = some (.ref l) := by
  rw [List.lookup_cons, beq_self_eq_true]
section
variable {K : PySem.W.Frag} {H H' : Hp} {p C dx : Addr} {fs : List (Str × V)}
theorem WkAt.but {v : V} {g : Gv} (W : WkAt K H v g) (b : But p H H') (e : H p = some (.ins C dx fs)) (n : ga K "Work" ≠ C) : WkAt K H' v g := by
  obtain ⟨a, dy, l, hh, r, ml, mh, mr, e', ea, h1, h2, h3, q⟩ := W
  have k : Kd midO H H' := kd_but1 b e rfl
  have na : a ≠ p := fun z => by
    subst z
    rw [e] at ea
    injection ea with ea
    injection ea with ea
    exact n ea.symm
  exact ⟨a, dy, l, hh, r, ml, mh, mr, e', b _ _ na ea, h1.mv k, h2.mv k, h3.mv k, q⟩
theorem WsAt.but {d : Addr} {s : S2} (W : WsAt K H d s) (b : But p H H') (e : H p = some (.ins C dx fs)) (n : ga K "Work" ≠ C) : WsAt K H' d s := by
  obtain ⟨v1, v2, ed, h1, h2⟩ := W
  have k : Kd midO H H' := kd_but1 b e rfl
  exact ⟨v1, v2, k _ _ ed rfl, h1.but b e n, h2.but b e n⟩
end
/-- a workshop stands at p: the first works, those now, the entries -/
def ShAt (K : PySem.W.Frag) (H : Hp) (p : Addr) (f c : S2) (es : List En) : Prop := ∃ (dx fw ow oe : Addr) (xs : List V), H p = some (.ins (ga K "Workshop") dx (shopFs fw ow oe)) ∧ WsAt K H fw f ∧ WsAt K H ow c ∧ H oe = some (.lst xs) ∧ flatO (.lst xs) = true ∧ DtL H xs (es.map dEn)
theorem ShAt.mv {K : PySem.W.Frag} {H H' : Hp} {p : Addr} {f c : S2} {es : List En} (h : ShAt K H p f c es) (k : Kd fullO H H') (e : ∀ o, H p = some o → H' p = some o) : ShAt K H' p f c es := by
  obtain ⟨dx, fw, ow, oe, xs, hp, h1, h2, h3, h4, h5⟩ := h
  exact ⟨dx, fw, ow, oe, xs, e _ hp, h1.mv k, h2.mv k, k.mid.flat _ _ h3 h4, h4, h5.mv k.mid.flat⟩
theorem ShAt.up {K : PySem.W.Frag} {H H' : Hp} {p : Addr} {f c : S2} {es : List En} (h : ShAt K H p f c es) (s : Same H H') : ShAt K H' p f c es := h.mv (kd_of s) fun o e => s _ _ e
theorem refs_flat {a : V} {H : Hp} {en : En} {xs : List V} {es : List En} (h : DtL H xs (es.map dEn)) : flatO (.lst xs) = true := by
  cases es with
  | nil => cases h; rfl
  | cons e es =>
    cases h with
    | cons h1 t =>
      obtain ⟨a, xs, rfl, _⟩ := dEn_inv h1
      rfl
theorem ens_flat {H : Hp} {xs : List V} {es : List En} (h : DtL H xs (es.map dEn)) : flatO (.lst xs) = true := by
  cases es with
  | nil => cases h; rfl
  | cons e es =>
    cases h with
    | cons h1 t =>
      obtain ⟨a, xs, rfl, _⟩ := dEn_inv h1
      rfl
/-! ### promises -/
def spCheckW (K : PySem.W.Frag) : Sp := fun vs H Q _ => ∃ (a dx : Addr) (fs : List (Str × V)), vs = [.ref a] ∧ H a = some (.ins (ga K "Work") dx fs) ∧ Q .non H
def spInitS (K : PySem.W.Frag) : Sp := fun vs H Q _ => ∃ (p dx d : Addr) (s : S2) (v1 v2 : V), vs = [.ref p, .ref d] ∧ H p = some (.ins (ga K "Workshop") dx []) ∧ H d = some (.dK [((Sum.inr "two" : Key), v2), ((Sum.inr "one" : Key), v1)]) ∧ WkAt K H v1 s.1 ∧ WkAt K H v2 s.2 ∧
  ∀ H', But p H H' → ShAt K H' p s s [] → Q .non H'
def spNames (K : PySem.W.Frag) : Sp := fun vs H Q _ => ∃ (p : Addr) (f c : S2) (es : List En), vs = [.ref p] ∧ ShAt K H p f c es ∧ ∀ q H', Same H H' → H' q = some (.lst [.str "one", .str "two"]) → Q (.ref q) H'
def spEntries (K : PySem.W.Frag) : Sp := fun vs H Q _ => ∃ (p : Addr) (f c : S2) (es : List En), vs = [.ref p] ∧ ShAt K H p f c es ∧ ∀ q xs H', Same H H' → H' q = some (.lst xs) → DtL H' xs (es.map dEn) → Q (.ref q) H'
def spLenS (K : PySem.W.Frag) : Sp := fun vs H Q _ => ∃ (p : Addr) (f c : S2) (es : List En), vs = [.ref p] ∧ ShAt K H p f c es ∧ es.length ≤ 1000 ∧ Q (.int es.length) H
def spWorkS (K : PySem.W.Frag) : Sp := fun vs H Q E => ∃ (p : Addr) (f c : S2) (es : List En) (n : Str), vs = [.ref p, .str n] ∧ ShAt K H p f c es ∧ (n = "one" ∨ n = "two") ∧ ∀ v, WkAt K H v (getG c n) → Q v H
section
variable {P : Program} {w : World} {K : PySem.W.Frag} {mg : Str → Option Value} {base : Heap}
theorem cal_check_work (T : TX P K mg) : Cal P w K mg base CX0 1 "check_work" (spCheckW K) := T.g_check_work.cal (ps := ["value"]) (fun f fd F => by
  refine F.ok c_check_work (fun vs H Q E h => ?_) (fun cdv A outer s H vs Q E hr h => ?_)
  · obtain ⟨a, dx, fs, rfl, _⟩ := h
    rfl
  · obtain ⟨a, dx, fs, rfl, ha, k⟩ := h
    refine ⟨_, pss_one (ps_if (pt_not (pt_val (pe_callB call_isi (by rfl) T.f_isinstance boot_isinstance (pa_cons (pv 0) (pa_cons (pe_glob (v := .ref (ga K "Work")) rfl T.g_W rfl) pa_nil))))) (pss_one ps_never) pss_nil), ?_⟩
    exact ⟨_, rfl, _, _, _, _, true, rfl, .own _, .base (.ins ha T.c_W T.w_ha T.w_hn T.w_htk T.w_hm), kit_same, _, rfl, iteF k⟩) (fun _ _ _ _ _ _ us hl => match us, hl with | [_], _ => rfl)
theorem ok_initS (T : TX P K mg) {f : Addr} {fd : FuncData} (F : Fun K "__init__" "Workshop.__init__" s_Workshop_init f fd) : FnOk P w K mg base CX0 3 f fd ["self", "works"] (spInitS K) := by
  refine F.ok c_Workshop_init (fun vs H Q E h => ?_) (fun cdv A outer s H vs Q E hr h => ?_)
  · obtain ⟨p, dx, d, st, v1, v2, rfl, _⟩ := h
    rfl
  · obtain ⟨p, dx, d, st, v1, v2, rfl, hp, hd, W1, W2, k⟩ := h
    have nd := c_Workshop_init.nd
    have hu := hu_of hr
    have hr1 : Room 1 _ := hr.mono (by decide)
    obtain ⟨t10, h10⟩ := T.i_MAX_WORKS
    refine ⟨_, pss_cons (ps_if (PW.pt (pw_or (pt_not (pt_val (pe_callB call_isi (by rfl) T.f_isinstance boot_isinstance (pa_cons (pv 1) (pa_cons (pe_bltn (v := .ty "dict") (by rfl) T.f_dict (by decide +kernel) rfl) pa_nil)))))
          (pw_or1 (pt_not (pt_chain op_le op_le pe_int (pe_callB call_lenD (by rfl) T.f_len PySem.boot_len (pa_cons (pv 1) pa_nil)) (pe_glob (v := .int 10) rfl h10 ⟨_, rfl⟩)))))) (pss_one ps_never) pss_nil)
      (pss_cons (ps_lock (ps_for PassesOwn.never rfl (pi_keys (pv 1)) (pg_name (i := 2) nd rfl (Or.inl rfl)) (pss_one (ps_if (pt_not (pt_val (pe_cal (cal_is_name T) hr pass0 (pa_cons (pv 2) pa_nil)))) (pss_one ps_never) pss_nil))))
      (pss_cons (ps_lock (ps_for PassesOwn.never rfl (pi_keys (pv 1)) (pg_name (i := 2) nd rfl (Or.inl rfl)) (pss_one (ps_expr (pe_cal (cal_check_work T) hr1 pass0 (pa_cons (pe_dget hu (pv 1) (pv 2) (fun _ _ => rfl)) pa_nil))))))
      (pss_cons (ps_fld (pv 0) (pe_cal (cal_ordered T) hr1 pass0 (pa_cons (pv 1) pa_nil)) rfl)
      (pss_cons (ps_fld (pv 0) (pe_fld (pv 0) rfl) rfl)
      (pss_one (ps_fld (pv 0) (pe_lst pa_nil) rfl)))))), ?_⟩
    have npd : p ≠ d := ne_of hp hd (by intro z; cases z)
    have nmB : ∀ (i : Nat) (ky : Key) (v : V), [((Sum.inr "two" : Key), v2), ((Sum.inr "one" : Key), v1)][i]? = some (ky, v) → ∃ n : Str, ky = Sum.inr n ∧ NameB n = true ∧ n.length ≤ 100 ∧ valV [((Sum.inr "two" : Key), v2), ((Sum.inr "one" : Key), v1)] (Sum.inr n : Key) = some v ∧ ∃ g, WkAt K H v g := fun i ky v e => by
      match i, e with
      | 0, e => cases e; exact ⟨"two", rfl, by decide +kernel, by decide +kernel, valV_pos rfl, _, W2⟩
      | 1, e => cases e; exact ⟨"one", rfl, by decide +kernel, by decide +kernel, by rw [valV_neg ne_toK, valV_pos rfl], _, W1⟩
    refine ⟨_, rfl, _, _, _, _, true, rfl, .ty _, .base (.dK hd), kit_ty (by decide +kernel), _, rfl, iteF ?_⟩
    refine ⟨_, rfl, d, _, rfl, hd, _, _, rfl, rfl, _, rfl, ?_⟩
    rw [decide_eq_true (show (1 : Int) ≤ (([((Sum.inr "two" : Key), v2), ((Sum.inr "one" : Key), v1)].length : Nat) : Int) by show (1 : Int) ≤ 2; decide)]
    refine iteT ⟨_, _, rfl, rfl, _, rfl, ?_⟩
    rw [decide_eq_true (show (([((Sum.inr "two" : Key), v2), ((Sum.inr "one" : Key), v1)].length : Nat) : Int) ≤ 10 by show (2 : Int) ≤ 10; decide)]
    refine iteF ?_
    -- the names
    refine ⟨d, _, hd, True.intro, fun od => ?_⟩
    refine ⟨_, rfl, d, od, rfl, .inl ⟨_, upd_same, ?_⟩⟩
    refine for_it (walk_keys (d := d) (o := od) (kvs := [((Sum.inr "two" : Key), v2), ((Sum.inr "one" : Key), v1)])) (fun i σ H2 => ∃ z, σ = [some (.ref p), some (.ref d), z] ∧ Same (upd H d (.frz od (.dK [((Sum.inr "two" : Key), v2), ((Sum.inr "one" : Key), v1)]))) H2) ⟨none, rfl, Same.refl _⟩ (fun i σ H2 _ ⟨z, _, s⟩ => s _ _ upd_same) ?_ ?_
    · rintro i x σ H2 H3 hi ⟨z, rfl, s⟩ ⟨rfl, ky, v, e1, rfl⟩
      obtain ⟨n, rfl, ok, l100, _⟩ := nmB i ky v e1
      refine ⟨_, rfl, n, rfl, l100, fun H4 s4 => ⟨_, rfl, ?_⟩⟩
      rw [ok]
      exact iteF ⟨_, rfl, s.trans s4⟩
    rintro σ H2 ⟨z, rfl, s⟩
    refine ⟨s _ _ upd_same, ?_⟩
    have s2 : Same H (upd H2 d (.dK [((Sum.inr "two" : Key), v2), ((Sum.inr "one" : Key), v1)])) := Same.unlock hd fun b o nb e => s _ _ (by rw [upd_ne nb]; exact e)
    have hd2 : (upd H2 d (.dK [((Sum.inr "two" : Key), v2), ((Sum.inr "one" : Key), v1)])) d = some (.dK [((Sum.inr "two" : Key), v2), ((Sum.inr "one" : Key), v1)]) := upd_same
    generalize upd H2 d (.dK [((Sum.inr "two" : Key), v2), ((Sum.inr "one" : Key), v1)]) = HA at s2 hd2
    clear s
    -- the works
    refine ⟨d, _, hd2, True.intro, fun od2 => ?_⟩
    refine ⟨_, rfl, d, od2, rfl, .inl ⟨_, upd_same, ?_⟩⟩
    refine for_it (walk_keys (d := d) (o := od2) (kvs := [((Sum.inr "two" : Key), v2), ((Sum.inr "one" : Key), v1)])) (fun i σ H2 => ∃ z, σ = [some (.ref p), some (.ref d), z] ∧ H2 = upd HA d (.frz od2 (.dK [((Sum.inr "two" : Key), v2), ((Sum.inr "one" : Key), v1)]))) ⟨_, rfl, rfl⟩ (fun i σ H2 _ ⟨z, _, s⟩ => by rw [s]; exact upd_same) ?_ ?_
    · rintro i x σ H3 H4 hi ⟨z, rfl, rfl⟩ ⟨rfl, ky, v, e1, rfl⟩
      obtain ⟨n, rfl, ok, l100, ev, g, a, dy, l, hh, r, ml, mh, mr, rfl, ea, _⟩ := nmB i ky v e1
      have nad : a ≠ d := ne_of ea hd (by intro z; cases z)
      refine ⟨_, rfl, _, rfl, d, .ref a, rfl, ?_, a, dy, _, rfl, by rw [upd_ne nad]; exact s2 _ _ ea, _, rfl, rfl⟩
      exact .inl ⟨_, (Sum.inr n : Key), .inr ⟨od2, upd_same⟩, rfl, ev.symm⟩
    rintro σ H3 ⟨z2, rfl, rfl⟩
    refine ⟨upd_same, ?_⟩
    have s3 : Same H (upd (upd HA d (.frz od2 (.dK [((Sum.inr "two" : Key), v2), ((Sum.inr "one" : Key), v1)]))) d (.dK [((Sum.inr "two" : Key), v2), ((Sum.inr "one" : Key), v1)])) := s2.trans (Same.unlock hd2 fun b o nb e => by rw [upd_ne nb]; exact e)
    generalize upd (upd HA d (.frz od2 (.dK [((Sum.inr "two" : Key), v2), ((Sum.inr "one" : Key), v1)]))) d (.dK [((Sum.inr "two" : Key), v2), ((Sum.inr "one" : Key), v1)]) = HB at s3
    clear s2 hd2
    -- first_works, own_works, own_entries
    refine ⟨_, rfl, d, _, ["two", "one"], rfl, s3 _ _ hd, rfl, by decide +kernel, by decide, fun q kvs' HC sC nC eC pC ⟨ys, eys, yp, ysr⟩ => ?_⟩
    have hys : ys = (["one", "two"] : List Str) := by
      have h1 := yp.length_eq
      match ys, h1 with
      | [a, b], _ =>
        have ma : a ∈ (["two", "one"] : List Str) := yp.mem_iff.mp (by simp)
        have mb : b ∈ (["two", "one"] : List Str) := yp.mem_iff.mp (by simp)
        have nn : ([a, b] : List Str).Nodup := yp.nodup_iff.mpr (by decide +kernel)
        simp only [List.mem_cons, List.not_mem_nil, or_false] at ma mb
        rcases ma with rfl | rfl <;> rcases mb with rfl | rfl
        · simp at nn
        · exact absurd ysr (by decide +kernel)
        · rfl
        · simp at nn
    subst hys
    have hkv : kvs' = [((Sum.inr "one" : Key), v1), ((Sum.inr "two" : Key), v2)] := by
      match kvs', eys with
      | [(a, x), (b, y)], eys =>
        injection eys with e1 e2
        injection e2 with e2 e3
        have e1' : a = Sum.inr ("one" : Str) := e1
        have e2' : b = Sum.inr ("two" : Str) := e2
        subst e1' e2'
        have m1 : ((Sum.inr "one" : Key), x) ∈ [((Sum.inr "two" : Key), v2), ((Sum.inr "one" : Key), v1)] := pC.mem_iff.mp (by simp)
        have m2 : ((Sum.inr "two" : Key), y) ∈ [((Sum.inr "two" : Key), v2), ((Sum.inr "one" : Key), v1)] := pC.mem_iff.mp (by simp)
        have x1 : x = v1 := by
          rcases List.mem_cons.mp m1 with e | e
          · exact absurd (congrArg Prod.fst e) ne_otK
          · exact congrArg Prod.snd (List.mem_singleton.mp e)
        have y1 : y = v2 := by
          rcases List.mem_cons.mp m2 with e | e
          · exact congrArg Prod.snd e
          · exact absurd (congrArg Prod.fst (List.mem_singleton.mp e)) ne_toK
        rw [x1, y1]
    subst hkv
    have npq : p ≠ q := ne_of_none (s3 _ _ hp) nC
    refine ⟨_, rfl, p, _, dx, _, rfl, (s3.trans sC) _ _ hp, T.c_S, T.a_first_works, (by show 0 < 1000; decide), ?_⟩
    rw [sf1]
    refine ⟨_, rfl, p, _, dx, _, _, rfl, upd_same, T.c_S, T.a_first_works, l2F _, _, rfl, p, _, dx, _, rfl, upd_same, T.c_S, T.a_own_works, (by show 1 < 1000; decide), ?_⟩
    rw [sf2, upd_upd]
    refine ⟨by show 0 ≤ sizeLine; exact Nat.zero_le _, fun l hl => ?_⟩
    have npl : p ≠ l := fun z => by subst z; rw [upd_same] at hl; cases hl
    refine ⟨_, rfl, p, _, dx, _, rfl, (by rw [upd_ne npl]; exact upd_same), T.c_S, T.a_own_entries, (by show 2 < 1000; decide), ?_⟩
    rw [sf3]
    have bz : But p H (upd (upd (upd HC p (.ins (ga K "Workshop") dx [("first_works", .ref q), ("own_works", .ref q)])) l (.lst [])) p (.ins (ga K "Workshop") dx (shopFs q q l))) := (((but_of (s3.trans sC)).put _).new hl _).put _
    have eq : (upd (upd (upd HC p (.ins (ga K "Workshop") dx [("first_works", .ref q), ("own_works", .ref q)])) l (.lst [])) p (.ins (ga K "Workshop") dx (shopFs q q l))) q = some (.dK [((Sum.inr "one" : Key), v1), ((Sum.inr "two" : Key), v2)]) := by
      have nql : q ≠ l := fun z => by subst z; rw [upd_ne npq.symm, eC] at hl; cases hl
      rw [upd_ne npq.symm, upd_ne nql, upd_ne npq.symm]
      exact eC
    refine k _ bz ⟨dx, q, q, l, [], upd_same, ⟨v1, v2, eq, W1.but bz hp T.ne_WS, W2.but bz hp T.ne_WS⟩, ⟨v1, v2, eq, W1.but bz hp T.ne_WS, W2.but bz hp T.ne_WS⟩, ?_, rfl, .nil⟩
    rw [upd_ne npl.symm, upd_same]
theorem fn_names (T : TX P K mg) : ∃ p g fd, PropOf K (ga K "Workshop") "names" p g ∧ FnOk P w K mg base CX0 1 g fd ["self"] (spNames K) ∧ Binds K fd ["self"] [] := by
  obtain ⟨p, g, fd, hp, F⟩ := T.p_Workshop_names
  refine ⟨p, g, fd, hp, ?_, F.binds (fun _ _ _ _ _ _ us hl => match us, hl with | [_], _ => rfl)⟩
  refine F.ok c_Workshop_names (fun vs H Q E h => ?_) (fun cdv A outer s H vs Q E hr h => ?_)
  · obtain ⟨p, f, c, es, rfl, _⟩ := h
    rfl
  · obtain ⟨p, f, c, es, rfl, ⟨dx, fw, ow, oe, xs, hp, h1, ⟨v1, v2, h2, _⟩, h3⟩, k⟩ := h
    refine ⟨_, pss_one (ps_ret (pe_callTy (call_listD rfl) (by rfl) T.f_list (by decide +kernel) (pa_cons (pe_fld (pv 0) rfl) pa_nil))), ?_⟩
    exact ⟨_, rfl, p, _, dx, _, _, rfl, hp, T.c_S, T.a_own_works, lW _ _ _, ow, _, rfl, .inl h2, fun q hq => k q _ (same1 hq _) upd_same⟩
theorem fn_entries (T : TX P K mg) : ∃ p g fd, PropOf K (ga K "Workshop") "entries" p g ∧ FnOk P w K mg base CX0 1 g fd ["self"] (spEntries K) ∧ Binds K fd ["self"] [] := by
  obtain ⟨p, g, fd, hp, F⟩ := T.p_Workshop_entries
  refine ⟨p, g, fd, hp, ?_, F.binds (fun _ _ _ _ _ _ us hl => match us, hl with | [_], _ => rfl)⟩
  refine F.ok c_Workshop_entries (fun vs H Q E h => ?_) (fun cdv A outer s H vs Q E hr h => ?_)
  · obtain ⟨p, f, c, es, rfl, _⟩ := h
    rfl
  · obtain ⟨p, f, c, es, rfl, ⟨dx, fw, ow, oe, xs, hp, h1, h2, h3, h4, h5⟩, k⟩ := h
    refine ⟨_, pss_one (ps_ret (pe_callTy call_list_of (by rfl) T.f_list (by decide +kernel) (pa_cons (pe_fld (pv 0) rfl) pa_nil))), ?_⟩
    exact ⟨_, rfl, p, _, dx, _, _, rfl, hp, T.c_S, T.a_own_entries, lE _ _ _, oe, _, rfl, .inl (SqL.of h3), fun q hq => k q xs _ (same1 hq _) upd_same (h5.up (same1 hq _))⟩
theorem cal_shop_work (T : TX P K mg) : CalM P w K mg base CX0 2 (ga K "Workshop") "work" (spWorkS K) := T.m_Workshop_work.cal (ps := ["self", "name"]) (fun f fd F => by
  refine F.ok c_Workshop_work (fun vs H Q E h => ?_) (fun cdv A outer s H vs Q E hr h => ?_)
  · obtain ⟨p, f, c, es, n, rfl, _⟩ := h
    rfl
  · obtain ⟨p, f, c, es, n, rfl, ⟨dx, fw, ow, oe, xs, hp, h1, ⟨v1, v2, hd, W1, W2⟩, h3⟩, hn, k⟩ := h
    have hu := hu_of hr
    refine ⟨_, pss_cons (ps_expr (pe_cal (cal_check_known T) hr passL (pa_cons (pv 1) (pa_cons (pe_fld (pv 0) rfl) pa_nil))))
      (pss_one (ps_ret (pe_dget hu (pe_fld (pv 0) rfl) (pv 1) (fun _ _ => rfl)))), ?_⟩
    have dg := DGet.k (k := (Sum.inr n : Key)) hd
    rw [val2 hn] at dg
    refine ⟨_, rfl, _, rfl, p, _, dx, _, _, rfl, hp, T.c_S, T.a_own_works, lW _ _ _, n, ow, _, rfl, hd, fun v ev => ?_, fun e => by rw [val2 hn] at e; cases e⟩
    refine ⟨_, rfl, p, _, dx, _, _, rfl, hp, T.c_S, T.a_own_works, lW _ _ _, _, rfl, ow, _, rfl, dg, k _ ?_⟩
    unfold getG
    split
    · exact W1
    · exact W2) (fun _ _ _ _ _ _ us hl => match us, hl with | [_, _], _ => rfl)
theorem cal_shop_len (T : TX P K mg) : CalM P w K mg base CX0 1 (ga K "Workshop") "__len__" (spLenS K) := T.m_Workshop_len.cal (ps := ["self"]) (fun f fd F => by
  refine F.ok c_Workshop_len (fun vs H Q E h => ?_) (fun cdv A outer s H vs Q E hr h => ?_)
  · obtain ⟨p, f, c, es, rfl, _⟩ := h
    rfl
  · obtain ⟨p, f, c, es, rfl, ⟨dx, fw, ow, oe, xs, hp, h1, h2, h3, h4, h5⟩, hl, k⟩ := h
    refine ⟨_, pss_one (ps_ret (pe_callB call_len_seq (by rfl) T.f_len PySem.boot_len (pa_cons (pe_fld (pv 0) rfl) pa_nil))), ?_⟩
    have e := h5.length
    rw [List.length_map] at e
    rw [← e] at k
    exact ⟨_, rfl, p, _, dx, _, _, rfl, hp, T.c_S, T.a_own_entries, lE _ _ _, oe, _, rfl, .inl (SqL.of h3), k⟩) (fun _ _ _ _ _ _ us hl => match us, hl with | [_], _ => rfl)
end
end K7

set_option Elab.async false
set_option linter.all false
set_option maxRecDepth 100000
set_option maxHeartbeats 2000000
/-! A workshop: check, record, the deeds. -/
namespace K7
open PySem PySem.Spec PyProof.Rows L2
section
variable {X : Cx} {C : Addr} {bmB : List Value} {B newId initId : String}
/-- X(), an own exception class without own __init__ -/
theorem pmk_own0 {x : Str} {p pos : Pos} (F : ExcBaseFacts B newId initId bmB) (q : PySem.W.excIn X.K C bmB newId = true) (gC : X.mg x = some (.ref C)) (kC : PySem.W.keepIn X.K (.ref C) = true) (r : Raises X (.ref C)) (hg : Gl X x := by rfl)
    (hdb : (x == ("__debug__" : Str)) = false := by decide) : PMk X (.Call (.Name x p) [] [] pos) (fun _ H Q => Q (.ref C) none H) := by
  intro pins s σ H Q I h
  refine wpAny_Call_Name_kw (ld_glob I hg gC ?_ hdb)
  refine PySem.W.callWith_K0 I.kIn kC ?_
  obtain ⟨bm, N, nm, qn, bs, hdct, sn, sub, ab, col, dd, k0, k1, k2, k3, k5, mN, hC, hN, hni, T⟩ := exc_obj I.kIn q
  refine wpAny_call_exc_subT F T hC hN hni (fun h' e hm => ?_) (by show 0 ≤ sizeLine; exact Nat.zero_le _)
  exact mk_of I hm r h (I.hok.gone hm.new)
end
/-- what a deed leaves -/
def OutS (K : PySem.W.Frag) (p : Addr) (f c : S2) (es : List En) (en : En) (H : Hp) (Q : VK) (E : XK) : Prop := (∀ er, dueS c en = some er → RsE K er H E) ∧ (dueS c en = none → ∀ H', But p H H' → ShAt K H' p f (madeS c en) (es ++ [en]) → Q .non H')
def spCheckS (K : PySem.W.Frag) : Sp := fun vs H Q _ => ∃ (p : Addr) (f c : S2) (es : List En) (u n : Str), vs = [.ref p, .str u, .str n] ∧ ShAt K H p f c es ∧ NameB u = true ∧ (n = "one" ∨ n = "two") ∧ ∀ H', Same H H' → Q .non H'
def spRecord (K : PySem.W.Frag) : Sp := fun vs H Q E => ∃ (p : Addr) (f c : S2) (es : List En) (en : En) (v : V), vs = [.ref p, v] ∧ ShAt K H p f c es ∧ S2Ok c ∧ Dt H v (dEn en) ∧ EnOk en ∧ es.length ≤ 100 ∧ OutS K p f c es en H Q E
def enArgs (p : Addr) (vp vq : V) : En → List V
  | .load u n z _ => [.ref p, .str u, .str n, .str z, vq]
  | .rope u n z _ _ _ => [.ref p, .str u, .str n, .str z, vp, vq]
  | .drop u n z => [.ref p, .str u, .str n, .str z]
def enParts (H : Hp) (vp vq : V) : En → Prop
  | .load _ _ _ q => Dt H vq (dFr q)
  | .rope _ _ _ b ws q => Dt H vp (dPath b ws) ∧ Dt H vq (dFr q)
  | .drop _ _ _ => True
def isLoad : En → Prop | .load .. => True | _ => False
def isRope : En → Prop | .rope .. => True | _ => False
def isDrop : En → Prop | .drop .. => True | _ => False
def spDeed (K : PySem.W.Frag) (is : En → Prop) : Sp := fun vs H Q E => ∃ (p : Addr) (f c : S2) (es : List En) (en : En) (vp vq : V), vs = enArgs p vp vq en ∧ is en ∧ ShAt K H p f c es ∧ S2Ok c ∧ enParts H vp vq en ∧ EnOk en ∧ NameB en.us = true ∧ es.length ≤ 100 ∧ OutS K p f c es en H Q E
theorem OutS.up {K : PySem.W.Frag} {p : Addr} {f c : S2} {es : List En} {en : En} {H H1 : Hp} {Q : VK} {E : XK} (h : OutS K p f c es en H Q E) (s : Same H H1) : OutS K p f c es en H1 Q E :=
  ⟨fun er e => (h.1 er e).up s, fun e H' b S => h.2 e H' ((but_of s).trans b) S⟩
section
variable {P : Program} {w : World} {K : PySem.W.Frag} {mg : Str → Option Value} {base : Heap}
theorem cal_check (T : TX P K mg) : CalM P w K mg base (CX P w) 3 (ga K "Workshop") "check" (spCheckS K) := T.m_Workshop_check.cal (ps := ["self", "user", "name"]) (fun f fd F => by
  refine F.okX c_Workshop_check (fun vs H Q E h => ?_) (fun cdv A outer s H vs Q E hr h => ?_)
  · obtain ⟨p, f, c, es, u, n, rfl, _⟩ := h
    rfl
  · obtain ⟨p, f, c, es, u, n, rfl, ⟨dx, fw, ow, oe, xs, hp, h1, ⟨v1, v2, hd, W1, W2⟩, h3⟩, hu, hn, k⟩ := h
    have hr1 : Room 1 _ := hr.mono (by decide)
    refine ⟨_, pss_cons (ps_if (pt_not (pt_val (pe_cal (cal_is_name T) hr pass0 (pa_cons (pv 1) pa_nil)))) (pss_one ps_never) pss_nil)
      (pss_one (ps_expr (pe_cal (cal_check_known T) hr1 (passes_call (takes_of rfl rfl rfl rfl) (fun _ _ _ _ h => h)) (pa_cons (pv 2) (pa_cons (pe_fld (pv 0) rfl) pa_nil))))), ?_⟩
    refine ⟨_, rfl, u, rfl, Nat.le_trans (WordB.len hu) (by decide), fun H1 s1 => ⟨_, rfl, ?_⟩⟩
    rw [hu]
    refine iteF ?_
    exact ⟨_, rfl, _, rfl, p, _, dx, _, _, rfl, s1 _ _ hp, T.c_S, T.a_own_works, lW _ _ _, n, ow, _, rfl, s1 _ _ hd, fun v ev => k H1 s1, fun e => by rw [val2 hn] at e; cases e⟩) (fun _ _ _ _ _ _ us hl => match us, hl with | [_, _, _], _ => rfl)
theorem cal_record (T : TX P K mg) : CalM P w K mg base (CX P w) 9 (ga K "Workshop") "record" (spRecord K) := T.m_Workshop_record.cal (ps := ["self", "entry"]) (fun f fd F => by
  refine F.okX c_Workshop_record (fun vs H Q E h => ?_) (fun cdv A outer s H vs Q E hr h => ?_)
  · obtain ⟨p, f, c, es, en, v, rfl, _⟩ := h
    rfl
  · obtain ⟨p, f, c, es, en, v, rfl, ⟨dx, fw, ow, oe, xs, hp, h1, h2, h3, h4, h5⟩, O, dv, eo, hl, k1, k2⟩ := h
    refine ⟨_, pss_cons (ps_fld (pv 0) (pe_cal (cal_applied T) hr (passes_call (takes_of rfl rfl rfl rfl) (fun _ _ _ _ h => h)) (pa_cons (pe_fld (pv 0) rfl) (pa_cons (pv 1) pa_nil))) rfl)
      (pss_one (ps_fld (pv 0) (pe_op op_cat (pe_fld (pv 0) rfl) (pe_lst (pa_cons (pv 1) pa_nil))) rfl)), ?_⟩
    refine ⟨_, rfl, p, _, dx, _, _, rfl, hp, T.c_S, T.a_own_works, lW _ _ _, _, rfl, ow, v, c, en, rfl, h2, O, dv, eo, k1, fun e d' H1 s1 W' => ?_⟩
    refine ⟨_, rfl, p, _, dx, _, rfl, s1 _ _ hp, T.c_S, T.a_own_works, (by show 3 < 1000; decide), ?_⟩
    rw [sW]
    have hp1 := s1 _ _ hp
    have b1 : But p H1 (upd H1 p (.ins (ga K "Workshop") dx (shopFs fw d' oe))) := (But.refl p H1).put _
    have W2 := W'.but b1 hp1 T.ne_WS
    have F2 := (h1.up s1).but b1 hp1 T.ne_WS
    have m1 : Kd flatO H1 (upd H1 p (.ins (ga K "Workshop") dx (shopFs fw d' oe))) := kd_but1 b1 hp1 rfl
    have l2 : (upd H1 p (.ins (ga K "Workshop") dx (shopFs fw d' oe))) oe = some (.lst xs) := m1 _ _ (s1 _ _ h3) h4
    have d2 : DtL (upd H1 p (.ins (ga K "Workshop") dx (shopFs fw d' oe))) xs (es.map dEn) := (h5.up s1).mv m1
    have v2 : Dt (upd H1 p (.ins (ga K "Workshop") dx (shopFs fw d' oe))) v (dEn en) := (dv.up s1).mv m1
    have hp2 : (upd H1 p (.ins (ga K "Workshop") dx (shopFs fw d' oe))) p = some (.ins (ga K "Workshop") dx (shopFs fw d' oe)) := upd_same
    have bH : But p H (upd H1 p (.ins (ga K "Workshop") dx (shopFs fw d' oe))) := (but_of s1).put _
    generalize upd H1 p (.ins (ga K "Workshop") dx (shopFs fw d' oe)) = H2 at W2 F2 l2 d2 v2 hp2 bH
    clear b1 m1
    refine ⟨_, rfl, p, _, dx, _, _, rfl, hp2, T.c_S, T.a_own_entries, lE _ _ _, _, rfl, (by show 1 ≤ sizeLine; decide), fun l hl' => ?_⟩
    have s3 := same1 hl' (.lst [v])
    have ll : xs.length = es.length := by rw [h5.length, List.length_map]
    refine ⟨oe, l, xs, [v], rfl, rfl, s3 _ _ l2, upd_same, (by show xs.length + 1 ≤ sizeLine; exact Nat.le_of_lt (small1000 (by omega))), fun q hq => ?_⟩
    have s4 := same_new s3 hq (.lst (xs ++ [v]))
    have hp4 := s4 _ _ hp2
    refine ⟨_, rfl, p, _, dx, _, rfl, hp4, T.c_S, T.a_own_entries, (by show 3 < 1000; decide), ?_⟩
    rw [sE]
    have npq : p ≠ q := ne_of_none (s3 _ _ hp2) hq
    have d4 : DtL (upd (upd H2 l (.lst [v])) q (.lst (xs ++ [v]))) (xs ++ [v]) ((es ++ [en]).map dEn) := by
      rw [List.map_append]
      exact (d2.up s4).app (.cons (v2.up s4) .nil)
    have b5 : But p (upd (upd H2 l (.lst [v])) q (.lst (xs ++ [v]))) (upd (upd (upd H2 l (.lst [v])) q (.lst (xs ++ [v]))) p (.ins (ga K "Workshop") dx (shopFs fw d' q))) := (But.refl p _).put _
    have m5 : Kd flatO _ _ := kd_but1 b5 hp4 rfl
    refine k2 e _ ((bH.trans (but_of s4)).trans b5) ⟨dx, fw, d', q, xs ++ [v], upd_same, (F2.up s4).but b5 hp4 T.ne_WS, (W2.up s4).but b5 hp4 T.ne_WS, ?_, ens_flat d4, d4.mv m5⟩
    rw [upd_ne npq.symm, upd_same]) (fun _ _ _ _ _ _ us hl => match us, hl with | [_, _], _ => rfl)
theorem ks1 {l h r : Addr} : (shopFs l h r).lookup ("check" : Str) = none := lN (by decide +kernel) (by decide +kernel) (by decide +kernel)
theorem ks2 {l h r : Addr} : (shopFs l h r).lookup ("record" : Str) = none := lN (by decide +kernel) (by decide +kernel) (by decide +kernel)
theorem cal_set_load (T : TX P K mg) : CalM P w K mg base (CX P w) 10 (ga K "Workshop") "set_load" (spDeed K isLoad) := T.m_Workshop_set_load.cal (ps := ["self", "user", "name", "hook", "load"]) (fun f fd F => by
  refine F.okX c_Workshop_set_load (fun vs H Q E h => ?_) (fun cdv A outer s H vs Q E hr h => ?_)
  · obtain ⟨p, f, c, es, en, vp, vq, rfl, hi, _⟩ := h
    cases en with
    | load => rfl
    | _ => exact hi.elim
  · obtain ⟨p, f, c, es, en, vp, vq, rfl, hi, S, O, dp, eo, hu, hl, k⟩ := h
    cases en with
    | rope => exact hi.elim
    | drop => exact hi.elim
    | load u n z q =>
      have hr3 : Room 3 _ := hr.mono (by decide)
      refine ⟨_, pss_cons (ps_expr (pe_calM (pv 0) T.c_S (cal_check T) hr3 (passes_call (takes_of rfl rfl rfl rfl) (fun _ _ _ _ h => h)) (pa_cons (pv 1) (pa_cons (pv 2) pa_nil))))
        (pss_one (ps_expr (pe_calM (pv 0) T.c_S (cal_record T) hr (passes_call (takes_of rfl rfl rfl rfl) (fun _ _ _ _ h => h)) (pa_cons (pe_tup (pa_cons (pv 1) (pa_cons (pv 2) (pa_cons pe_str (pa_cons (pv 3) (pa_cons (pv 4) pa_nil)))))) pa_nil)))), ?_⟩
      obtain ⟨dx, fw, ow, oe, xs, hp, _⟩ := id S
      refine ⟨_, rfl, p, dx, _, rfl, hp, ks1, _, rfl, _, rfl, p, f, c, es, u, n, rfl, S, hu, eo.1, fun H1 s1 => ?_⟩
      refine ⟨_, rfl, p, dx, _, rfl, s1 _ _ hp, ks2, _, rfl, _, rfl, _, rfl, _, rfl, (by show 5 ≤ sizeLine; decide), fun t ht => ?_⟩
      have s2 := same_new s1 ht (.tup [.str u, .str n, .str "load", .str z, vq])
      exact ⟨p, f, c, es, .load u n z q, .ref t, rfl, S.up s2, O, .tup upd_same (.cons (.str _) (.cons (.str _) (.cons (.str _) (.cons (.str _) (.cons (Dt.up dp s2) .nil))))), eo, hl, k.up s2⟩) (fun _ _ _ _ _ _ us hl => match us, hl with | [_, _, _, _, _], _ => rfl)
theorem cal_set_rope (T : TX P K mg) : CalM P w K mg base (CX P w) 10 (ga K "Workshop") "set_rope" (spDeed K isRope) := T.m_Workshop_set_rope.cal (ps := ["self", "user", "name", "rope", "path", "length"]) (fun f fd F => by
  refine F.okX c_Workshop_set_rope (fun vs H Q E h => ?_) (fun cdv A outer s H vs Q E hr h => ?_)
  · obtain ⟨p, f, c, es, en, vp, vq, rfl, hi, _⟩ := h
    cases en with
    | rope => rfl
    | _ => exact hi.elim
  · obtain ⟨p, f, c, es, en, vp, vq, rfl, hi, S, O, dp, eo, hu, hl, k⟩ := h
    cases en with
    | load => exact hi.elim
    | drop => exact hi.elim
    | rope u n z b ws q =>
      have hr3 : Room 3 _ := hr.mono (by decide)
      refine ⟨_, pss_cons (ps_expr (pe_calM (pv 0) T.c_S (cal_check T) hr3 (passes_call (takes_of rfl rfl rfl rfl) (fun _ _ _ _ h => h)) (pa_cons (pv 1) (pa_cons (pv 2) pa_nil))))
        (pss_one (ps_expr (pe_calM (pv 0) T.c_S (cal_record T) hr (passes_call (takes_of rfl rfl rfl rfl) (fun _ _ _ _ h => h)) (pa_cons (pe_tup (pa_cons (pv 1) (pa_cons (pv 2) (pa_cons pe_str (pa_cons (pv 3) (pa_cons (pv 4) (pa_cons (pv 5) pa_nil))))))) pa_nil)))), ?_⟩
      obtain ⟨dx, fw, ow, oe, xs, hp, _⟩ := id S
      refine ⟨_, rfl, p, dx, _, rfl, hp, ks1, _, rfl, _, rfl, p, f, c, es, u, n, rfl, S, hu, eo.1, fun H1 s1 => ?_⟩
      refine ⟨_, rfl, p, dx, _, rfl, s1 _ _ hp, ks2, _, rfl, _, rfl, _, rfl, _, rfl, _, rfl, (by show 6 ≤ sizeLine; decide), fun t ht => ?_⟩
      have s2 := same_new s1 ht (.tup [.str u, .str n, .str "rope", .str z, vp, vq])
      exact ⟨p, f, c, es, .rope u n z b ws q, .ref t, rfl, S.up s2, O, .tup upd_same (.cons (.str _) (.cons (.str _) (.cons (.str _) (.cons (.str _) (.cons (Dt.up dp.1 s2) (.cons (Dt.up dp.2 s2) .nil)))))), eo, hl, k.up s2⟩) (fun _ _ _ _ _ _ us hl => match us, hl with | [_, _, _, _, _, _], _ => rfl)
theorem cal_drop_rope (T : TX P K mg) : CalM P w K mg base (CX P w) 10 (ga K "Workshop") "drop_rope" (spDeed K isDrop) := T.m_Workshop_drop_rope.cal (ps := ["self", "user", "name", "rope"]) (fun f fd F => by
  refine F.okX c_Workshop_drop_rope (fun vs H Q E h => ?_) (fun cdv A outer s H vs Q E hr h => ?_)
  · obtain ⟨p, f, c, es, en, vp, vq, rfl, hi, _⟩ := h
    cases en with
    | drop => rfl
    | _ => exact hi.elim
  · obtain ⟨p, f, c, es, en, vp, vq, rfl, hi, S, O, dp, eo, hu, hl, k⟩ := h
    cases en with
    | load => exact hi.elim
    | rope => exact hi.elim
    | drop u n z =>
      have hr3 : Room 3 _ := hr.mono (by decide)
      refine ⟨_, pss_cons (ps_expr (pe_calM (pv 0) T.c_S (cal_check T) hr3 (passes_call (takes_of rfl rfl rfl rfl) (fun _ _ _ _ h => h)) (pa_cons (pv 1) (pa_cons (pv 2) pa_nil))))
        (pss_one (ps_expr (pe_calM (pv 0) T.c_S (cal_record T) hr (passes_call (takes_of rfl rfl rfl rfl) (fun _ _ _ _ h => h)) (pa_cons (pe_tup (pa_cons (pv 1) (pa_cons (pv 2) (pa_cons pe_str (pa_cons (pv 3) pa_nil))))) pa_nil)))), ?_⟩
      obtain ⟨dx, fw, ow, oe, xs, hp, _⟩ := id S
      refine ⟨_, rfl, p, dx, _, rfl, hp, ks1, _, rfl, _, rfl, p, f, c, es, u, n, rfl, S, hu, eo.1, fun H1 s1 => ?_⟩
      refine ⟨_, rfl, p, dx, _, rfl, s1 _ _ hp, ks2, _, rfl, _, rfl, _, rfl, (by show 4 ≤ sizeLine; decide), fun t ht => ?_⟩
      have s2 := same_new s1 ht (.tup [.str u, .str n, .str "drop", .str z])
      exact ⟨p, f, c, es, .drop u n z, .ref t, rfl, S.up s2, O, .tup upd_same (.cons (.str _) (.cons (.str _) (.cons (.str _) (.cons (.str _) .nil)))), eo, hl, k.up s2⟩) (fun _ _ _ _ _ _ us hl => match us, hl with | [_, _, _, _], _ => rfl)
end
end K7

set_option Elab.async false
set_option linter.all false
set_option maxRecDepth 100000
set_option maxHeartbeats 2000000
/-! undo. -/
namespace K7
open PySem PySem.Spec PyProof.Rows L2
def byU (es : List En) (u : Str) (i : Nat) : Bool := decide ((es[i]?).map En.us = some u)
def placesTo (es : List En) (u : Str) (n : Nat) : List Nat := (List.range n).filter (byU es u)
def places (es : List En) (u : Str) : List Nat := placesTo es u es.length
def without (es : List En) (i : Nat) : List En := es.take i ++ es.drop (i + 1)
def replay : S2 → List En → Except Er S2
  | s, [] => .ok s
  | s, en :: r => match dueS s en with
    | some er => .error er
    | none => replay (madeS s en) r
theorem placesTo_succ (es : List En) (u : Str) (n : Nat) : placesTo es u (n + 1) = placesTo es u n ++ (if byU es u n = true then [n] else []) := by
  unfold placesTo
  rw [List.range_succ, List.filter_append, List.filter_cons, List.filter_nil]
theorem places_lt {es : List En} {u : Str} {i : Nat} (h : i ∈ places es u) : i < es.length := List.mem_range.mp (List.mem_filter.mp h).1
theorem cut_take {xs : List V} {i : Nat} (h : i ≤ xs.length) : cutV xs none (some (i : Int)) = xs.take i := by
  unfold cutV
  rw [HT.sIx_nat, HT.sIx_none, Nat.min_eq_left h, List.drop_zero, Nat.sub_zero]
theorem cut_drop {xs : List V} {i : Nat} (h : i ≤ xs.length) : cutV xs (some (i : Int)) none = xs.drop i := by
  unfold cutV
  rw [HT.sIx_nat, HT.sIx_none, Nat.min_eq_left h, ← List.length_drop, List.take_length]
theorem dp_ints {K : PySem.W.Frag} {H : Hp} : ∀ ns : List Nat, DpAll K H (ns.map fun n => V.int (n : Nat)) (ns.map fun n => PyData.int (n : Nat))
  | [] => .nil
  | n :: ns => .cons (.int _) (dp_ints ns)
theorem sh_ints (ns : List Nat) : Sh 1 (.list (ns.map fun n => PyData.int (n : Nat))) := Sh.lst fun d hd => by
  obtain ⟨n, _, rfl⟩ := List.mem_map.mp hd
  exact .int _
theorem eqv_nil (ns : List Nat) : PyData.eqv (.list (ns.map fun n => PyData.int (n : Nat))) (.list []) = ns.isEmpty := by
  cases ns with
  | nil => simp [PyData.eqv, PyData.eqvAll]
  | cons n ns => simp [PyData.eqv, PyData.eqvAll]
theorem last_at {ns : List Nat} {i : Nat} (h : ns.getLast? = some i) : atI (ns.map fun n => V.int (n : Nat)) (-1) = some (.int (i : Nat)) := by
  obtain ⟨ms, e⟩ := List.getLast?_eq_some_iff.mp h
  rw [e, List.map_append]
  exact atI_last _ _
def spUndo (K : PySem.W.Frag) : Sp := fun vs H Q E => ∃ (p : Addr) (f c : S2) (es : List En) (u : Str), vs = [.ref p, .str u] ∧ ShAt K H p f c es ∧ S2Ok f ∧ (∀ en ∈ es, EnOk en) ∧ NameB u = true ∧ es.length ≤ 100 ∧
  ((places es u).getLast? = none → RsE K .nothing H E) ∧ ∀ i en, (places es u).getLast? = some i → es[i]? = some en → (∀ er, replay f (without es i) = .error er → RsE K er H E) ∧
    ∀ c', replay f (without es i) = .ok c' → ∀ v H', But p H H' → ShAt K H' p f c' (without es i) → Dt H' v (dEn en) → Q v H'
section
variable {P : Program} {w : World} {K : PySem.W.Frag} {mg : Str → Option Value} {base : Heap}
theorem cal_undo (T : TX P K mg) : CalM P w K mg base (CX P w) 9 (ga K "Workshop") "undo" (spUndo K) := T.m_Workshop_undo.cal (ps := ["self", "user"]) (fun f fd F => by
  refine F.okX c_Workshop_undo (fun vs H Q E h => ?_) (fun cdv A outer s H vs Q E hr h => ?_)
  · obtain ⟨p, f, c, es, u, rfl, _⟩ := h
    rfl
  · obtain ⟨p, f, c, es, u, rfl, S, O, eok, hu, hl, k1, k2⟩ := h
    have nd := c_Workshop_undo.nd
    have hr2 : Room 2 _ := hr.mono (by decide)
    have hu0 := hr.units
    refine ⟨_, pss_cons (ps_if (pt_not (pt_val (pe_cal (cal_is_name T) hr2 pass0 (pa_cons (pv 1) pa_nil)))) (pss_one ps_never) pss_nil)
      (pss_cons (ps_setLc (i := 2) (own := [("index", 3), ("entry", 4)]) (g := gPair K 3 4) rfl nd rfl rfl (sw_true rfl rfl rfl (by decide +kernel)) (pi_enum (by rfl) T.f_enumerate (pa_cons (pe_fld (pv 0) rfl) pa_nil)) (blkOk_by (own := [("index", 3), ("entry", 4)]) (N := n_Workshop_undo) (sc := defScope s_Workshop_undo) (by decide +kernel))
        (fun _ _ _ _ _ => pg_tup rfl (pgs_cons (pg_name (i := 3) nd rfl (Or.inl rfl)) (pgs_cons (pg_name (i := 4) nd rfl (Or.inl rfl)) pgs_nil)))
        (fun _ _ _ _ _ => pts_one (pt_cmpR op_eq (pe_ix (show IxR _ (rIxT K) from ix_tup) (pv 4) pe_int (fun _ _ => rfl)) (pv 1) (nomark _))) (fun _ _ _ _ _ => pv 3))
      (pss_cons (ps_if (pt_cmpR (op_eqD hu0) (pv 2) (pe_lst pa_nil) (nomark _)) (pss_one (ps_raise rfl (takes_of rfl rfl rfl rfl) (pmk_own0 PySem.F.excBase_RuntimeError T.n_x T.n_g T.n_k (raises_own T.n_b T.n_t)))) pss_nil)
      (pss_cons (ps_set (i := 5) nd rfl (Or.inl rfl) (pe_op op_cat (pe_slice sl_list (pe_fld (pv 0) rfl) po_none (po_some (pe_ix ix_list (pv 2) (pe_un un_neg pe_int) (fun _ _ => rfl))))
          (pe_slice sl_list (pe_fld (pv 0) rfl) (po_some (pe_op op_add (pe_ix ix_list (pv 2) (pe_un un_neg pe_int) (fun _ _ => rfl)) pe_int)) po_none)))
      (pss_cons (ps_set (i := 6) nd rfl (Or.inl rfl) (pe_fld (pv 0) rfl))
      (pss_cons (ps_for (passes_of rfl) rfl (pi_list (pv 5)) (pg_name (i := 4) nd rfl (Or.inl rfl)) (pss_one (ps_set (i := 6) nd rfl (Or.inl rfl) (pe_cal (cal_applied T) hr (passes_call (takes_of rfl rfl rfl rfl) (fun _ _ _ _ h => h)) (pa_cons (pv 6) (pa_cons (pv 4) pa_nil))))))
      (pss_cons (ps_set (i := 7) nd rfl (Or.inl rfl) (pe_ix ix_list (pe_fld (pv 0) rfl) (pe_ix ix_list (pv 2) (pe_un un_neg pe_int) (fun _ _ => rfl)) (fun _ _ => rfl)))
      (pss_cons (ps_fld (pv 0) (pv 6) rfl)
      (pss_cons (ps_fld (pv 0) (pv 5) rfl)
      (pss_one (ps_ret (pv 7))))))))))), ?_⟩
    obtain ⟨dx, fw, ow, oe, xs, hp, h1, h2, h3, h4, h5⟩ := id S
    have lx : xs.length = es.length := by rw [h5.length, List.length_map]
    refine ⟨_, rfl, u, rfl, Nat.le_trans (WordB.len hu) (by decide), fun H1 s1 => ⟨_, rfl, ?_⟩⟩
    rw [hu]
    refine iteF ?_
    -- places
    refine ⟨_, rfl, p, _, dx, _, _, rfl, s1 _ _ hp, T.c_S, T.a_own_entries, lE _ _ _, oe, xs, rfl, SqL.of (s1 _ _ h3), fun D hD => ?_⟩
    have noD : oe ≠ D := ne_of_none (s1 _ _ h3) hD
    refine lc_it (walk_enum (K := K) (a := oe) (xs := xs)) (fun i H2 => But D H1 H2 ∧ H2 D = some (.lst ((placesTo es u i).map fun n => V.int (n : Nat)))) ⟨(But.refl D H1).put _, upd_same⟩ (fun i H2 _ b => SqL.of (b.1 oe _ noD (s1 _ _ h3))) ?_ ?_
    · rintro i x H2 H3 hi ⟨b, e⟩ ⟨t, x1, x2, rfl, ht, rfl, e1, e2⟩
      cases e1
      have ei : es[i]? = some es[i] := List.getElem?_eq_getElem (by omega)
      obtain ⟨d, ed, dd⟩ := h5.getV e2
      rw [List.getElem?_map, ei] at ed
      cases ed
      have dd2 : Dt (upd H2 t (.tup [.int (i : Nat), x2])) x2 (dEn es[i]) := dd.up ((s1.trans (b.same hD)).trans (same1 ht _))
      obtain ⟨a2, ys, rfl, ha2, ev⟩ := dEn_inv dd2
      have eus : ys[0]? = some (.str es[i].us) := by
        cases he : es[i] with
        | load u' n z q => rw [he] at ev; obtain ⟨vq, rfl, _⟩ := ev; rfl
        | rope u' n z b' ws q => rw [he] at ev; obtain ⟨vp, vq, rfl, _⟩ := ev; rfl
        | drop u' n z => rw [he] at ev; obtain rfl := ev; rfl
      have b2 := b.new ht (.tup [.int (i : Nat), .ref a2])
      have e2' := same1 ht (.tup [.int (i : Nat), .ref a2]) _ _ e
      refine ⟨t, _, rfl, SqT.of upd_same, rfl, _, _, rfl, _, _, rfl, rfl, rfl, ?_⟩
      refine ⟨_, rfl, a2, ys, _, _, rfl, rfl, SqT.of ha2, atI_nat (j := 0) eus, _, rfl, rfl, _, rfl, ?_⟩
      by_cases c : es[i].us = u
      · rw [show decide (V.str es[i].us = V.str u) = true from decide_eq_true (by rw [c])]
        refine iteT ⟨_, rfl, _, e2', ?_, b2.put _, ?_⟩
        · rw [List.length_map]
          have : (placesTo es u i).length ≤ i := by
            have := List.length_filter_le (byU es u) (List.range i)
            rw [List.length_range] at this
            exact this
          exact small1000 (by omega)
        · have hb : byU es u i = true := decide_eq_true (by rw [ei, ← c]; rfl)
          rw [upd_same, placesTo_succ, if_pos hb, List.map_append]
          rfl
      · rw [show decide (V.str es[i].us = V.str u) = false from decide_eq_false (fun q => c (by injection q))]
        have hb : ¬ byU es u i = true := fun z => c (by have := of_decide_eq_true z; rw [ei] at this; injection this)
        refine iteF ⟨b2, ?_⟩
        rw [placesTo_succ, if_neg hb, List.append_nil]
        exact e2'
    rintro H2 ⟨b, e⟩
    rw [lx] at e
    have s2 : Same H H2 := s1.trans (b.same hD)
    clear b s1 hD
    -- if places == []
    refine ⟨_, rfl, (by show 0 ≤ sizeLine; exact Nat.zero_le _), fun l0 hl0 => ?_⟩
    have s3 := same1 hl0 (.lst [])
    refine ⟨.list ((places es u).map fun n => PyData.int (n : Nat)), .list [], .lst (SqL.of (s3 _ _ e)) (dp_ints _), .lst (SqL.of upd_same) .nil, (sh_ints _).shaped (by decide), by decide, _, rfl, ?_⟩
    rw [eqv_nil]
    have e3 := s3 _ _ e
    have sA : Same H (upd H2 l0 (.lst [])) := s2.trans s3
    generalize upd H2 l0 (.lst []) = HA at e3 sA
    clear s3 hl0 s2 e
    cases hg : (places es u).getLast? with
    | none =>
      have hp0 : places es u = [] := List.getLast?_eq_none_iff.mp hg
      rw [hp0]
      exact iteT (k1 hg HA sA)
    | some i =>
      have hpn : (places es u).isEmpty = false := by
        cases hpl : places es u with
        | nil => rw [hpl] at hg; cases hg
        | cons a r => rfl
      rw [hpn]
      refine iteF ?_
      have him : i ∈ places es u := List.mem_of_getLast? hg
      have hie := places_lt him
      have ei : es[i]? = some es[i] := List.getElem?_eq_getElem hie
      obtain ⟨k3, k4⟩ := k2 i _ hg ei
      have eat := last_at hg
      -- entries
      refine ⟨_, rfl, p, _, dx, _, _, rfl, sA _ _ hp, T.c_S, T.a_own_entries, lE _ _ _, ?_⟩
      refine ⟨_, rfl, _, rfl, D, _, _, _, rfl, rfl, SqL.of e3, eat, _, rfl, oe, xs, rfl, SqL.of (sA _ _ h3), fun p1 hp1 => ?_⟩
      rw [cut_take (by omega)]
      have s4 := same1 hp1 (.lst (xs.take i))
      refine ⟨_, rfl, p, _, dx, _, _, rfl, (sA.trans s4) _ _ hp, T.c_S, T.a_own_entries, lE _ _ _, ?_⟩
      refine ⟨_, rfl, _, rfl, D, _, _, _, rfl, rfl, SqL.of (s4 _ _ e3), eat, _, _, rfl, rfl, _, rfl, oe, xs, rfl, SqL.of ((sA.trans s4) _ _ h3), fun p2 hp2 => ?_⟩
      rw [show ((i : Int) + 1) = ((i + 1 : Nat) : Int) by omega, cut_drop (by omega)]
      have s5 := same1 hp2 (.lst (xs.drop (i + 1)))
      refine ⟨p1, p2, _, _, rfl, rfl, s5 _ _ upd_same, upd_same, ?_, fun p3 hp3 => ?_⟩
      · rw [List.length_take, List.length_drop]
        exact Nat.le_of_lt (small1000 (by omega))
      have s6 := same_new (s4.trans s5) hp3 (.lst (xs.take i ++ xs.drop (i + 1)))
      have sB : Same H _ := sA.trans s6
      have e6 := s6 _ _ e3
      have eL : (upd (upd (upd HA p1 (.lst (xs.take i))) p2 (.lst (xs.drop (i + 1)))) p3 (.lst (xs.take i ++ xs.drop (i + 1)))) p3 = some (.lst (xs.take i ++ xs.drop (i + 1))) := upd_same
      generalize upd (upd (upd HA p1 (.lst (xs.take i))) p2 (.lst (xs.drop (i + 1)))) p3 (.lst (xs.take i ++ xs.drop (i + 1))) = HB at sB e6 eL
      clear s6 s5 s4 hp1 hp2 hp3 sA e3
      have dL : DtL HB (xs.take i ++ xs.drop (i + 1)) ((without es i).map dEn) := by
        unfold without
        rw [List.map_append, List.map_take, List.map_drop]
        exact ((h5.up sB).take).app ((h5.up sB).drop)
      generalize xs.take i ++ xs.drop (i + 1) = ls at eL dL
      have lls : ls.length = (without es i).length := by rw [dL.length, List.length_map]
      -- works, one by one
      refine ⟨_, rfl, p, _, dx, _, _, rfl, sB _ _ hp, T.c_S, T.a_first_works, lF _ _ _, ?_⟩
      refine ⟨_, rfl, p3, rfl, ⟨_, SqL.of eL⟩, for_list (K := K) (a := p3) (xs := ls) (fun j σ H3 => ∃ (z4 : Option V) (d : Addr) (cur : S2), σ = [some (.ref p), some (.str u), some (.ref D), none, z4, some (.ref p3), some (.ref d), none] ∧ Same HB H3 ∧ WsAt K H3 d cur ∧ S2Ok cur ∧ replay f (without es i) = replay cur ((without es i).drop j))
        ⟨none, fw, f, rfl, Same.refl _, h1.up sB, O, rfl⟩ (fun j σ H3 _ ⟨_, _, _, _, s, _⟩ => SqL.of (s _ _ eL)) ?_ ?_⟩
      · rintro j y σ H3 hj ⟨z4, d, cur, rfl, s, Wd, Oc, er⟩
        obtain ⟨dd, ed, dy⟩ := dL.getV hj
        rw [List.getElem?_map] at ed
        obtain ⟨en, een, rfl⟩ := Option.map_eq_some_iff.mp ed
        have hdrop : (without es i).drop j = en :: (without es i).drop (j + 1) := by
          obtain ⟨hjl, ej⟩ := List.getElem?_eq_some_iff.mp een
          rw [List.drop_eq_getElem_cons hjl, ej]
        have enok : EnOk en := by
          refine eok en ?_
          have := List.mem_of_getElem? een
          unfold without at this
          rcases List.mem_append.mp this with h | h
          · exact List.mem_of_mem_take h
          · exact List.mem_of_mem_drop h
        rw [hdrop] at er
        refine ⟨_, rfl, _, rfl, d, y, cur, en, rfl, Wd, Oc, dy.up s, enok, fun e1 ee => ?_, fun ee d' H4 s4 W4 => ?_⟩
        · have h6 : replay cur (en :: (without es i).drop (j + 1)) = .error e1 := by
            show (match dueS cur en with | some er => Except.error er | none => replay (madeS cur en) _) = _
            rw [ee]
          exact (k3 e1 (er.trans h6)).up (sB.trans s)
        · have h6 : replay cur (en :: (without es i).drop (j + 1)) = replay (madeS cur en) ((without es i).drop (j + 1)) := by
            show (match dueS cur en with | some er => Except.error er | none => replay (madeS cur en) _) = _
            rw [ee]
          exact ⟨some y, d', madeS cur en, rfl, s.trans s4, W4, madeS_ok Oc ee, er.trans h6⟩
      · rintro σ H3 ⟨z4, d, cur, rfl, s, Wd, Oc, er⟩
        rw [lls, List.drop_length] at er
        have er' : replay f (without es i) = .ok cur := er
        have sC : Same H H3 := sB.trans s
        obtain ⟨v, ev, dv⟩ := h5.get (i := i) (d := dEn es[i]) (by rw [List.getElem?_map, ei]; rfl)
        refine ⟨_, rfl, p, _, dx, _, _, rfl, sC _ _ hp, T.c_S, T.a_own_entries, lE _ _ _, _, rfl, _, rfl, D, _, _, _, rfl, rfl, SqL.of (s _ _ e6), eat, oe, xs, _, v, rfl, rfl, SqL.of (sC _ _ h3), atI_nat ev, ?_⟩
        refine ⟨_, rfl, _, rfl, p, _, dx, _, rfl, sC _ _ hp, T.c_S, T.a_own_works, (by show 3 < 1000; decide), ?_⟩
        rw [sW]
        refine ⟨_, rfl, _, rfl, p, _, dx, _, rfl, upd_same, T.c_S, T.a_own_entries, (by show 3 < 1000; decide), ?_⟩
        rw [sE, upd_upd]
        have hp3 := sC _ _ hp
        have bz : But p H3 (upd H3 p (.ins (ga K "Workshop") dx (shopFs fw d p3))) := (But.refl p H3).put _
        have mz : Kd flatO H3 (upd H3 p (.ins (ga K "Workshop") dx (shopFs fw d p3))) := kd_but1 bz hp3 rfl
        refine ⟨_, rfl, k4 cur er' v _ ((but_of sC).trans bz) ⟨dx, fw, d, p3, ls, upd_same, (h1.up sC).but bz hp3 T.ne_WS, Wd.but bz hp3 T.ne_WS, mz _ _ (s _ _ eL) (ens_flat dL), ens_flat dL, (dL.up s).mv mz⟩ ((dv.up sC).mv mz)⟩) (fun _ _ _ _ _ _ us hl => match us, hl with | [_, _], _ => rfl)
end
end K7

set_option Elab.async false
set_option linter.all false
set_option maxRecDepth 100000
set_option maxHeartbeats 2000000
/-! The law's own record: what is due. -/
namespace K7
open PySem PySem.Spec PyProof.Rows L2
def GvAt (H : Hp) (v : V) (g : Gv) : Prop := ∃ a l r f, v = .ref a ∧ H a = some (.lst [.ref l, .ref r, .ref f]) ∧ DA dFr H l g.loads ∧ DA dRp H r g.ropes ∧ DA dFr H f g.fixed
theorem GvAt.mv {H H' : Hp} {v : V} {g : Gv} (h : GvAt H v g) (k : Kd midO H H') : GvAt H' v g := by
  obtain ⟨a, l, r, f, e, ea, h1, h2, h3⟩ := h
  exact ⟨a, l, r, f, e, k _ _ ea rfl, h1.mv k, h2.mv k, h3.mv k⟩
theorem GvAt.up {H H' : Hp} {v : V} {g : Gv} (h : GvAt H v g) (k : Same H H') : GvAt H' v g := h.mv (kd_of k)
/-- two given works by their names -/
def StA (H : Hp) (d : Addr) (s : S2) : Prop := ∃ v1 v2, H d = some (.dK [((Sum.inr "one" : Key), v1), ((Sum.inr "two" : Key), v2)]) ∧ GvAt H v1 s.1 ∧ GvAt H v2 s.2
theorem StA.mv {H H' : Hp} {d : Addr} {s : S2} (h : StA H d s) (k : Kd midO H H') : StA H' d s := by
  obtain ⟨v1, v2, e, h1, h2⟩ := h
  exact ⟨v1, v2, k _ _ e rfl, h1.mv k, h2.mv k⟩
theorem StA.up {H H' : Hp} {d : Addr} {s : S2} (h : StA H d s) (k : Same H H') : StA H' d s := h.mv (kd_of k)
theorem StA.get {H : Hp} {d : Addr} {s : S2} (h : StA H d s) {n : Str} (hn : n = "one" ∨ n = "two") : ∃ v, DGet H d (.str n) (some v) ∧ GvAt H v (getG s n) := by
  obtain ⟨v1, v2, e, h1, h2⟩ := h
  have := DGet.k (k := (Sum.inr n : Key)) e
  rw [val2 hn] at this
  refine ⟨_, this, ?_⟩
  unfold getG
  split
  · exact h1
  · exact h2
def HoldsB (ps : List Str) (b : Bool) (ws : List Str) : Bool := b && (decide (3 ≤ ws.length) && (altS 0 ws).all (fun x => decide (x ∈ ps)))
/-- a path as the law draws them -/
def PathFine (b : Bool) (ws : List Str) : Prop := b = false ∨ ws.length < 3 ∨ (ws.length % 2 = 1 ∧ ws.length ≤ 23 ∧ (altS 1 ws).all (fun x => decide (x ∈ DIRS)) = true)
theorem holds_path {ps : List Str} {b : Bool} {ws : List Str} (h : PathFine b ws) : HoldsB ps b ws = PathB ps b ws := by
  unfold HoldsB PathB
  rcases h with rfl | h | ⟨h1, h2, h3⟩
  · rfl
  · have h4 : ¬ 3 ≤ ws.length := by omega
    rw [decide_eq_false h4]
    simp
  · rw [h3, decide_eq_true h1, decide_eq_true h2]
    simp
def EnFine : En → Prop
  | .load _ _ _ q => LdOk q ∨ q = (-1, 2) ∨ q = (2, 4)
  | .rope _ _ z b ws q => (NameB z = true ∨ z = "P" ∨ z = "") ∧ PathFine b ws ∧ (FrOk q ∨ q = (1, 0))
  | .drop _ _ _ => True
def dDue : Option Er → PyData
  | none => .none
  | some er => dEr er
def spHolds : Sp := fun vs H Q _ => ∃ (v : V) (pa : Addr) (ps : List Str) (b : Bool) (ws : List Str), vs = [v, .ref pa] ∧ Dt H v (dPath b ws) ∧ H pa = some (.lst (ps.map V.str)) ∧ ws.length ≤ 100 ∧ (∀ x ∈ ws, PyData.strOk x = true) ∧ ∀ H', Same H H' → Q (.bl (HoldsB ps b ws)) H'
def spDue : Sp := fun vs H Q _ => ∃ (d : Addr) (v : V) (s : S2) (en : En), vs = [.ref d, v] ∧ StA H d s ∧ S2Ok s ∧ Dt H v (dEn en) ∧ EnOk en ∧ EnFine en ∧ ∀ v' H', Same H H' → Dt H' v' (dDue (dueS s en)) → Q v' H'
def spMadeE : Sp := fun vs H Q _ => ∃ (d : Addr) (v : V) (s : S2) (en : En), vs = [.ref d, v] ∧ StA H d s ∧ S2Ok s ∧ Dt H v (dEn en) ∧ EnOk en ∧ dueS s en = none ∧ ∀ d' H', Same H H' → StA H' d' (madeS s en) → Q (.ref d') H'
theorem sh_strs {ns : List Str} (h : ∀ x ∈ ns, PyData.strOk x = true) : Sh 1 (.list (ns.map PyData.str)) := Sh.path (b := false) h
theorem eqv_nilS (ns : List Str) : PyData.eqv (.list (ns.map PyData.str)) (.list []) = ns.isEmpty := by
  cases ns with
  | nil => simp [PyData.eqv, PyData.eqvAll]
  | cons n ns => simp [PyData.eqv, PyData.eqvAll]
theorem eqv_fr (a b : Fr) : PyData.eqv (dFr a) (dFr b) = decide (a = b) := by
  obtain ⟨a1, a2⟩ := a
  obtain ⟨b1, b2⟩ := b
  unfold dFr
  simp only [PyData.eqv, PyData.eqvAll, Prod.mk.injEq]
  by_cases h1 : a1 = b1 <;> by_cases h2 : a2 = b2 <;> simp [h1, h2]
theorem filter_not {ps ls : List Str} : ((ls.filter fun x => !decide (x ∈ ps)).isEmpty) = ls.all (fun x => decide (x ∈ ps)) := by
  induction ls with
  | nil => rfl
  | cons x ls ih =>
    rw [List.filter_cons, List.all_cons]
    by_cases h : x ∈ ps
    · rw [decide_eq_true h]
      simpa using ih
    · rw [decide_eq_false h]
      rfl
section
variable {P : Program} {w : World} {K : PySem.W.Frag} {mg : Str → Option Value} {base : Heap}
theorem cal_path_holds (T : TX P K mg) : Cal P w K mg base CX0 1 "_law_path_holds" spHolds := T.g_law_path_holds.cal (ps := ["_law_path_here", "_law_points"]) (fun f fd F => by
  refine F.ok c_law_path_holds (fun vs H Q E h => ?_) (fun cdv A outer s H vs Q E hr h => ?_)
  · obtain ⟨v, pa, ps, b, ws, rfl, _⟩ := h
    rfl
  · obtain ⟨v, pa, ps, b, ws, rfl, dv, hpa, hw, wok, k⟩ := h
    have nd := c_law_path_holds.nd
    have hu0 := hr.units
    refine ⟨_, pss_cons (ps_if (PW.pt (pw_or (pt_not (pt_val (pe_callB call_isi (by rfl) T.f_isinstance boot_isinstance (pa_cons (pv 0) (pa_cons (pe_bltn (v := .ty "tuple") (by rfl) T.f_tuple (by decide +kernel) rfl) pa_nil)))))
          (pw_or1 (pt_cmpR op_lt (pe_callB call_len_seq (by rfl) T.f_len PySem.boot_len (pa_cons (pv 0) pa_nil)) pe_int (nomark _))))) (pss_one (ps_ret pe_bl)) pss_nil)
      (pss_one (ps_ret (pe_cmpR (op_eqD hu0) (pe_lc (own := [("_law_point", 2)]) (g := gName 2) rfl nd (pi_tup (pe_slice2 (pv 0) po_none)) (blkOk_by (own := [("_law_point", 2)]) (N := n_law_path_holds) (sc := defScope s_law_path_holds) (by decide +kernel))
        (fun _ _ _ _ _ => pg_name (i := 2) nd rfl (Or.inl rfl)) (fun _ _ _ _ _ => pts_one (pt_cmpR (show OpR _ (compareOp .NotIn) (rIn K true) from op_notIn_seq) (pv 2) (pv 1) rfl)) (fun _ _ _ _ _ => pv 2)) (pe_lst pa_nil) (nomark _)))), ?_⟩
    obtain ⟨a, rfl, ha⟩ := dPath_inv dv
    cases b with
    | false =>
      refine ⟨_, rfl, _, _, _, _, false, rfl, .ty _, .base (.lst ha), kit_ty (by decide +kernel), _, rfl, iteT ?_⟩
      exact k H (Same.refl H)
    | true =>
      replace ha : H a = some (.tup (ws.map V.str)) := ha
      have hl : (ws.map V.str).length = ws.length := List.length_map ..
      refine ⟨_, rfl, _, _, _, _, true, rfl, .ty _, .base (.tup ha), kit_ty (by decide +kernel), _, rfl, iteF ?_⟩
      refine ⟨_, rfl, _, _, rfl, .inr (SqT.of ha), _, _, rfl, rfl, _, rfl, ?_⟩
      rw [hl]
      by_cases c2 : 3 ≤ ws.length
      case neg =>
        rw [decide_eq_true (show ((ws.length : Nat) : Int) < 3 by omega)]
        refine iteT ?_
        have := k H (Same.refl H)
        unfold HoldsB at this
        rw [decide_eq_false c2] at this
        exact this
      rw [decide_eq_false (show ¬ ((ws.length : Nat) : Int) < 3 by omega)]
      refine iteF ?_
      have eH : HoldsB ps true ws = (altS 0 ws).all (fun x => decide (x ∈ ps)) := by
        unfold HoldsB
        rw [decide_eq_true c2]
        rfl
      rw [eH, ← filter_not] at k
      have n1 : (altS 0 ws).length ≤ 100 := by
        have := alt_length 0 (ws.map V.str) (Nat.zero_le _)
        rw [alt_strs, List.length_map, List.length_map] at this
        omega
      refine ⟨_, rfl, a, _, rfl, SqT.of ha, Nat.zero_le _, fun p hp => ?_⟩
      rw [alt_strs]
      have s1 := same1 hp (.tup ((altS 0 ws).map V.str))
      refine ⟨p, rfl, ⟨_, SqT.of upd_same⟩, fun D hD => ?_⟩
      have npD : p ≠ D := fun z => by subst z; rw [upd_same] at hD; cases hD
      have npa : pa ≠ D := ne_of_none (s1 _ _ hpa) hD
      refine lc_it (walk_tup (K := K) (xs := (altS 0 ws).map V.str)) (fun i H2 => But D (upd H p (.tup ((altS 0 ws).map V.str))) H2 ∧ H2 D = some (.lst ((((altS 0 ws).take i).filter fun x => !decide (x ∈ ps)).map V.str))) ⟨(But.refl _ _).put _, upd_same⟩ (fun i H2 _ b => SqT.of (b.1 p _ npD upd_same)) ?_ ?_
      · rintro i x H2 H3 hi ⟨b, e⟩ ⟨rfl, ex⟩
        rw [List.getElem?_map] at ex
        obtain ⟨y, ey, rfl⟩ := Option.map_eq_some_iff.mp ex
        have etk : (altS 0 ws).take (i + 1) = (altS 0 ws).take i ++ [y] := by rw [List.take_add_one, ey]; rfl
        refine ⟨rfl, _, rfl, _, rfl, pa, _, rfl, .inl (SqL.of (b pa _ npa (s1 _ _ hpa))), rfl, strs_flatV _, _, rfl, ?_⟩
        show if (!inV (.str y) (ps.map V.str)) = true then _ else _
        rw [inV_strs]
        by_cases c : y ∈ ps
        · rw [decide_eq_true c]
          refine iteF ⟨b, ?_⟩
          rw [etk, List.filter_append, List.filter_cons, decide_eq_true c]
          simpa using e
        · rw [decide_eq_false c]
          refine iteT ⟨_, rfl, _, e, ?_, b.put _, ?_⟩
          · rw [List.length_map]
            have h1 := List.length_filter_le (fun x => !decide (x ∈ ps)) ((altS 0 ws).take i)
            rw [List.length_take] at h1
            exact small100 (by omega)
          · rw [upd_same, etk, List.filter_append, List.filter_cons, decide_eq_false c, List.map_append]
            rfl
      · rintro H2 ⟨b, e⟩
        rw [List.length_map, List.take_length] at e
        have s2 : Same H H2 := s1.trans (b.same hD)
        refine ⟨by show 0 ≤ sizeLine; exact Nat.zero_le _, fun l0 hl0 => ?_⟩
        have s3 := same1 hl0 (.lst [])
        have okf : ∀ x ∈ (altS 0 ws).filter (fun x => !decide (x ∈ ps)), PyData.strOk x = true := fun x hx => by
          obtain ⟨kk, hk⟩ := (mem_altS (Nat.zero_le _)).mp (List.mem_filter.mp hx).1
          exact wok x (List.mem_of_getElem? hk)
        refine ⟨.list (((altS 0 ws).filter fun x => !decide (x ∈ ps)).map PyData.str), .list [], .lst (SqL.of (s3 _ _ e)) (DtL.dp _ _ (dtl_strs _)), .lst (SqL.of upd_same) .nil, (sh_strs okf).shaped (by decide), by decide, ?_⟩
        rw [eqv_nilS]
        exact k _ (s2.trans s3)) (fun _ _ _ _ _ _ us hl => match us, hl with | [_, _], _ => rfl)
end
end K7

set_option Elab.async false
set_option linter.all false
set_option maxRecDepth 100000
set_option maxHeartbeats 2000000
namespace K7
open PySem PySem.Spec PyProof.Rows L2
section
variable {P : Program} {w : World} {K : PySem.W.Frag} {mg : Str → Option Value} {base : Heap}
theorem cal_due (T : TX P K mg) : Cal P w K mg base CX0 2 "_law_due" spDue := T.g_law_due.cal (ps := ["_law_states", "_law_entry_here"]) (fun f fd F => by
  refine F.ok c_law_due (fun vs H Q E h => ?_) (fun cdv A outer s H vs Q E hr h => ?_)
  · obtain ⟨d, v, st, en, rfl, _⟩ := h
    rfl
  · obtain ⟨d, v, st, en, rfl, W, O, dv, eo, ef, k⟩ := h
    have nd := c_law_due.nd
    have hu := hu_of hr
    have hu0 := hr.units
    have hu65 : (A.deeper (envOfC "_law_due" (defScope s_law_due) s.heap.objs.size f cdv)).units + 65 < cLine := by have := hr.un; omega
    obtain ⟨a, xs, rfl, ha, ex⟩ := dEn_inv dv
    refine ⟨_, pss_cons (ps_set (i := 2) nd rfl (Or.inl rfl) (pe_dget hu (pv 0) (pe_ix ix_tup (pv 1) pe_int (fun _ _ => rfl)) (fun _ _ => rfl)))
      (pss_cons (ps_if (pt_cmpR op_eq (pe_ix ix_tup (pv 1) pe_int (fun _ _ => rfl)) pe_str (nomark _))
        (pss_cons (ps_if (pt_cmp (pc_dnotin hu (pe_ix ix_tup (pv 1) pe_int (fun _ _ => rfl)) (pe_ix ix_list (pv 2) pe_int (fun _ _ => rfl)))) (pss_one (ps_ret (pe_tup (pa_cons pe_str (pa_cons (pe_ix ix_tup (pv 1) pe_int (fun _ _ => rfl)) pa_nil))))) pss_nil)
        (pss_one (ps_ret (pe_ifExp (pt_cmpR (op_inD hu65) (pe_ix ix_tup (pv 1) pe_int (fun _ _ => rfl)) (pe_lst (pa_cons (pe_tup (pa_cons (pe_un un_neg pe_int) (pa_cons pe_int pa_nil))) (pa_cons (pe_tup (pa_cons pe_int (pa_cons pe_int pa_nil))) pa_nil))) rfl)
          (pe_tup (pa_cons pe_str (pa_cons (pe_ix ix_tup (pv 1) pe_int (fun _ _ => rfl)) pa_nil))) pe_non)))) pss_nil)
      (pss_cons (ps_if (pt_cmpR op_eq (pe_ix ix_tup (pv 1) pe_int (fun _ _ => rfl)) pe_str (nomark _))
        (pss_one (ps_ret (pe_ifExp (pt_cmp (pc_din hu (pe_ix ix_tup (pv 1) pe_int (fun _ _ => rfl)) (pe_ix ix_list (pv 2) pe_int (fun _ _ => rfl)))) pe_non (pe_tup (pa_cons pe_str (pa_cons (pe_ix ix_tup (pv 1) pe_int (fun _ _ => rfl)) pa_nil)))))) pss_nil)
      (pss_cons (ps_if (pt_cmpR op_in_seq (pe_ix ix_tup (pv 1) pe_int (fun _ _ => rfl)) (pe_tup (pa_cons pe_str (pa_cons pe_str pa_nil))) rfl) (pss_one (ps_ret (pe_tup (pa_cons pe_str (pa_cons (pe_ix ix_tup (pv 1) pe_int (fun _ _ => rfl)) pa_nil))))) pss_nil)
      (pss_cons (ps_if (PW.pt (pw_or (pt_cmpR (op_eqD hu0) (pe_ix ix_tup (pv 1) pe_int (fun _ _ => rfl)) (pe_tup (pa_cons pe_int (pa_cons pe_int pa_nil))) (nomark _))
          (pw_or1 (pt_not (pt_val (pe_cal (cal_path_holds T) hr pass0 (pa_cons (pe_ix ix_tup (pv 1) pe_int (fun _ _ => rfl)) (pa_cons (pe_op op_cat (pe_callTy (call_listD rfl) (by rfl) T.f_list (by decide +kernel) (pa_cons (pe_ix ix_list (pv 2) pe_int (fun _ _ => rfl)) pa_nil))
            (pe_callTy (call_listD rfl) (by rfl) T.f_list (by decide +kernel) (pa_cons (pe_ix ix_list (pv 2) pe_int (fun _ _ => rfl)) pa_nil))) pa_nil)))))))) (pss_one (ps_ret (pe_tup (pa_cons pe_str (pa_cons (pe_ix ix_tup (pv 1) pe_int (fun _ _ => rfl)) pa_nil))))) pss_nil)
      (pss_one (ps_ret (pe_ifExp (PW.pt (pw_and (pt_cmpR op_eq (pe_callB call_lenD (by rfl) T.f_len PySem.boot_len (pa_cons (pe_ix ix_list (pv 2) pe_int (fun _ _ => rfl)) pa_nil)) pe_int (nomark _)) (pw_and1 (pt_cmp (pc_dnotin hu (pe_ix ix_tup (pv 1) pe_int (fun _ _ => rfl)) (pe_ix ix_list (pv 2) pe_int (fun _ _ => rfl)))))))
        (pe_tup (pa_cons pe_str (pa_cons pe_int pa_nil))) pe_non))))))), ?_⟩
    obtain ⟨vg, dg, WG⟩ := W.get eo.1
    have G := O.get en.nm
    have eS : dueS st en = due (getG st en.nm) en := rfl
    generalize getG st en.nm = g at WG G eS
    obtain ⟨gv, l, r, ff, rfl, hg, ⟨kl, hl, al⟩, ⟨kr, hrr, ar⟩, ⟨kf, hf, af⟩⟩ := id WG
    have fin2 : ∀ (H1 : Hp) (x y : V) (er : Er), Same H H1 → dueS st en = some er → (∀ H2, Same H1 H2 → ∀ t, H2 t = some (.tup [x, y]) → Dt H2 (.ref t) (dEr er)) → 2 ≤ sizeLine ∧ ∀ t, H1 t = none → Q (.ref t) (upd H1 t (.tup [x, y])) := fun H1 x y er s e hd => by
      refine ⟨by decide, fun t ht => k _ _ (same_new s ht _) ?_⟩
      rw [e]
      exact hd _ (same1 ht _) t upd_same
    have fin0 : dueS st en = none → Q .non H := fun e => k .non H (Same.refl H) (by rw [e]; exact .non)
    cases en with
    | load u n z q =>
      obtain ⟨vq, rfl, dq⟩ := ex
      refine ⟨_, rfl, _, rfl, a, _, _, _, rfl, rfl, SqT.of ha, rfl, d, .ref gv, rfl, dg, ?_⟩
      refine ⟨_, rfl, a, _, _, _, rfl, rfl, SqT.of ha, rfl, rfl, _, rfl, ?_⟩
      rw [decide_eq_true rfl]
      refine iteT ?_
      refine ⟨_, rfl, a, _, _, _, rfl, rfl, SqT.of ha, rfl, _, rfl, gv, _, _, _, rfl, rfl, SqL.of hg, rfl, l, _, rfl, DGet.k (k := (Sum.inr z : Key)) hl, _, rfl, ?_⟩
      have eD : due g (.load u n z q) = (if z ∈ keys g.loads then (if LdOk q then none else some (Er.number q)) else some (Er.unknown z)) := rfl
      by_cases hz : z ∈ keys g.loads
      case neg =>
        rw [al.valN (look_none hz)]
        refine iteT ?_
        rw [if_neg hz] at eD
        exact ⟨_, rfl, a, _, _, _, rfl, rfl, SqT.of ha, rfl, fin2 H _ _ _ (Same.refl H) (eS.trans eD) fun H2 s t e => .tup e (.cons (.str _) (.cons (.str _) .nil))⟩
      obtain ⟨x, ex⟩ := look_some hz
      obtain ⟨v, ev, _⟩ := al.val ex
      rw [ev]
      refine iteF ?_
      rw [if_pos hz] at eD
      obtain ⟨aq, rfl, haq⟩ := dFr_inv dq
      refine ⟨_, rfl, a, _, _, _, rfl, rfl, SqT.of ha, rfl, _, rfl, (by show 2 ≤ sizeLine; decide), fun t1 ht1 => ⟨(by show 2 ≤ sizeLine; decide), fun t2 ht2 => ⟨(by show 2 ≤ sizeLine; decide), fun t3 ht3 => ?_⟩⟩⟩
      have s1 := same1 ht1 (.tup [.int (-1), .int 2])
      have s2 := same1 ht2 (.tup [.int 2, .int 4])
      have s3 := same1 ht3 (.lst [.ref t1, .ref t2])
      have sA := (s1.trans s2).trans s3
      have d1 : Dt _ (.ref t1) (dFr (-1, 2)) := dFr_mk (q := (-1, 2)) (s3 _ _ (s2 _ _ upd_same))
      have d2 : Dt _ (.ref t2) (dFr (2, 4)) := dFr_mk (q := (2, 4)) (s3 _ _ upd_same)
      refine ⟨dFr q, [dFr (-1, 2), dFr (2, 4)], (dq.up sA).dp _ _, .lst (SqL.of upd_same) (.cons (d1.dp _ _) (.cons (d2.dp _ _) .nil)), (Sh.fr q).shaped (by decide), by decide, _, rfl, ?_⟩
      rw [show ([dFr (-1, 2), dFr (2, 4)].any fun z => PyData.eqv z (dFr q)) = decide (q = (-1, 2) ∨ q = (2, 4)) by
        rw [List.any_cons, List.any_cons, List.any_nil, eqv_fr, eqv_fr, Bool.or_false]
        rw [show decide (((-1, 2) : Fr) = q) = decide (q = (-1, 2)) from decide_eq_decide.mpr ⟨fun h => h.symm, fun h => h.symm⟩, show decide (((2, 4) : Fr) = q) = decide (q = (2, 4)) from decide_eq_decide.mpr ⟨fun h => h.symm, fun h => h.symm⟩]
        rw [Bool.decide_or]]
      by_cases hq : LdOk q
      · have hn : ¬ (q = (-1, 2) ∨ q = (2, 4)) := by
          rintro (rfl | rfl)
          · exact absurd hq (by decide)
          · exact absurd hq (by decide)
        rw [decide_eq_false hn]
        refine iteF ?_
        rw [if_pos hq] at eD
        exact k .non _ sA (by rw [eS, eD]; exact .non)
      · have hy : q = (-1, 2) ∨ q = (2, 4) := ef.resolve_left hq
        rw [decide_eq_true hy]
        refine iteT ?_
        rw [if_neg hq] at eD
        exact ⟨_, rfl, a, _, _, _, rfl, rfl, SqT.of (sA _ _ ha), rfl, fin2 _ _ _ _ sA (eS.trans eD) fun H2 s t e => .tup e (.cons (.str _) (.cons (dq.up (sA.trans s)) .nil))⟩
    | drop u n z =>
      obtain rfl := ex
      refine ⟨_, rfl, _, rfl, a, _, _, _, rfl, rfl, SqT.of ha, rfl, d, .ref gv, rfl, dg, ?_⟩
      refine ⟨_, rfl, a, _, _, _, rfl, rfl, SqT.of ha, rfl, rfl, _, rfl, ?_⟩
      rw [ne_str ne_dl]
      refine iteF ?_
      refine ⟨_, rfl, a, _, _, _, rfl, rfl, SqT.of ha, rfl, rfl, _, rfl, ?_⟩
      rw [decide_eq_true rfl]
      refine iteT ?_
      refine ⟨_, rfl, a, _, _, _, rfl, rfl, SqT.of ha, rfl, _, rfl, gv, _, _, _, rfl, rfl, SqL.of hg, rfl, r, _, rfl, DGet.k (k := (Sum.inr z : Key)) hrr, _, rfl, ?_⟩
      have eD : due g (.drop u n z) = (if z ∈ keys g.ropes then none else some (Er.unknown z)) := rfl
      by_cases hz : z ∈ keys g.ropes
      · obtain ⟨x, ex⟩ := look_some hz
        obtain ⟨v, ev, _⟩ := ar.val ex
        rw [ev]
        refine iteT ?_
        rw [if_pos hz] at eD
        exact fin0 (eS.trans eD)
      · rw [ar.valN (look_none hz)]
        refine iteF ?_
        rw [if_neg hz] at eD
        exact ⟨_, rfl, a, _, _, _, rfl, rfl, SqT.of ha, rfl, fin2 H _ _ _ (Same.refl H) (eS.trans eD) fun H2 s t e => .tup e (.cons (.str _) (.cons (.str _) .nil))⟩
    | rope u n z b ws q =>
      obtain ⟨vp, vq, rfl, dp, dq⟩ := ex
      have eD : due g (.rope u n z b ws q) = (if NameB z = true then (if RopeB (pts g) ((b, ws), q) = true then (if (putN g.ropes z ((b, ws), q)).length ≤ 10 then none else some .limit) else some (.rope z)) else some (.name z)) := rfl
      refine ⟨_, rfl, _, rfl, a, _, _, _, rfl, rfl, SqT.of ha, rfl, d, .ref gv, rfl, dg, ?_⟩
      refine ⟨_, rfl, a, _, _, _, rfl, rfl, SqT.of ha, rfl, rfl, _, rfl, ?_⟩
      rw [ne_str ne_lr]
      refine iteF ?_
      refine ⟨_, rfl, a, _, _, _, rfl, rfl, SqT.of ha, rfl, rfl, _, rfl, ?_⟩
      rw [ne_str (fun h => ne_dr h.symm)]
      refine iteF ?_
      refine ⟨_, rfl, a, _, _, _, rfl, rfl, SqT.of ha, rfl, (by show 2 ≤ sizeLine; decide), fun t1 ht1 => ?_⟩
      have s1 := same1 ht1 (.tup [.str "P", .str ""])
      refine ⟨t1, (["P", ""] : List Str).map V.str, rfl, .inr (SqT.of upd_same), rfl, strs_flatV _, _, rfl, ?_⟩
      show if inV (.str z) ((["P", ""] : List Str).map V.str) = true then _ else _
      rw [inV_strs]
      have ha1 := s1 _ _ ha
      have hg1 := s1 _ _ hg
      by_cases c1 : NameB z = true
      case neg =>
        have hz : z ∈ (["P", ""] : List Str) := by
          rcases ef.1 with h | rfl | rfl
          · exact absurd h c1
          · simp
          · simp
        rw [decide_eq_true hz]
        refine iteT ?_
        rw [if_neg c1] at eD
        exact ⟨_, rfl, a, _, _, _, rfl, rfl, SqT.of ha1, rfl, fin2 _ _ _ _ s1 (eS.trans eD) fun H2 s t e => .tup e (.cons (.str _) (.cons (.str _) .nil))⟩
      have hz : ¬ z ∈ (["P", ""] : List Str) := by
        intro h
        simp only [List.mem_cons, List.not_mem_nil, or_false] at h
        rcases h with rfl | rfl
        · exact absurd c1 (by decide +kernel)
        · exact absurd c1 (by decide +kernel)
      rw [decide_eq_false hz]
      refine iteF ?_
      rw [if_pos c1] at eD
      -- the length
      refine ⟨_, rfl, a, _, _, _, rfl, rfl, SqT.of ha1, rfl, (by show 2 ≤ sizeLine; decide), fun t2 ht2 => ?_⟩
      have s2 := s1.trans (same1 ht2 (.tup [.int 1, .int 0]))
      refine ⟨dFr q, dFr (1, 0), (dq.up s2).dp _ _, (Dt.dp (dFr (1, 0)) (.ref t2) (dFr_mk (q := (1, 0)) upd_same)), (Sh.fr q).shaped (by decide), by decide, _, rfl, ?_⟩
      rw [eqv_fr]
      have ha2 := s2 _ _ ha
      have hg2 := s2 _ _ hg
      by_cases c2 : q = (1, 0)
      · rw [decide_eq_true c2]
        refine iteT ?_
        have hR : ¬ RopeB (pts g) ((b, ws), q) = true := by
          unfold RopeB
          rw [c2, show decide (FrOk (1, 0)) = false by decide, Bool.and_false]
          exact Bool.false_ne_true
        rw [if_neg hR] at eD
        exact ⟨_, rfl, a, _, _, _, rfl, rfl, SqT.of ha2, rfl, fin2 _ _ _ _ s2 (eS.trans eD) fun H2 s t e => .tup e (.cons (.str _) (.cons (.str _) .nil))⟩
      rw [decide_eq_false c2]
      refine iteF ?_
      have hq : FrOk q := ef.2.2.resolve_right c2
      -- the path
      refine ⟨_, rfl, a, _, _, _, rfl, rfl, SqT.of ha2, rfl, _, rfl, gv, _, _, _, rfl, rfl, SqL.of hg2, rfl, l, kl, rfl, .inl (s2 _ _ hl), fun p1 hp1 => ?_⟩
      rw [keys_kV al.keys]
      have s3 := s2.trans (same1 hp1 (.lst ((g.loads.map (·.1)).map V.str)))
      refine ⟨_, rfl, gv, _, _, _, rfl, rfl, SqL.of (s3 _ _ hg), rfl, ff, kf, rfl, .inl (s3 _ _ hf), fun p2 hp2 => ?_⟩
      rw [keys_kV af.keys]
      have s4 := same1 hp2 (.lst ((g.fixed.map (·.1)).map V.str))
      refine ⟨p1, p2, _, _, rfl, rfl, s4 _ _ upd_same, upd_same, ?_, fun p3 hp3 => ?_⟩
      · rw [List.length_map, List.length_map, List.length_map, List.length_map]
        have h1 := G.l8
        have h2 := G.f8
        exact Nat.le_of_lt (small1000 (by omega))
      have s5 := same_new (s3.trans s4) hp3 (.lst ((g.loads.map (·.1)).map V.str ++ (g.fixed.map (·.1)).map V.str))
      refine ⟨vp, p3, pts g, b, ws, rfl, dp.up s5, by rw [upd_same, ← List.map_append]; rfl, eo.2.1.2, ?_, fun H6 s6 => ⟨_, rfl, ?_⟩⟩
      · have h1 : Sh 5 (dPath b ws) := eo.2.2.inv (d := dPath b ws) (by simp)
        intro x hx
        have h2 : Sh 5 (.tuple (ws.map PyData.str)) := by
          cases b with
          | true => exact h1
          | false => exact h1
        exact (h2.inv (List.mem_map_of_mem hx)).strOk
      have s7 := s5.trans s6
      rw [holds_path ef.2.1]
      by_cases c3 : PathB (pts g) b ws = true
      case neg =>
        rw [show PathB (pts g) b ws = false by simpa using c3]
        refine iteT ?_
        have hR : ¬ RopeB (pts g) ((b, ws), q) = true := by
          unfold RopeB
          rw [show PathB (pts g) b ws = false by simpa using c3, Bool.false_and]
          exact Bool.false_ne_true
        rw [if_neg hR] at eD
        exact ⟨_, rfl, a, _, _, _, rfl, rfl, SqT.of (s7 _ _ ha), rfl, fin2 _ _ _ _ s7 (eS.trans eD) fun H2 s t e => .tup e (.cons (.str _) (.cons (.str _) .nil))⟩
      rw [c3]
      refine iteF ?_
      have hR : RopeB (pts g) ((b, ws), q) = true := by
        unfold RopeB
        rw [c3, decide_eq_true hq]
        rfl
      rw [if_pos hR] at eD
      -- how many
      have hlr : kr.length = g.ropes.length := ar.length
      refine ⟨_, rfl, gv, _, _, _, rfl, rfl, SqL.of (s7 _ _ hg), rfl, r, kr, rfl, s7 _ _ hrr, rfl, _, rfl, ?_⟩
      have hpl := putN_len g.ropes z ((b, ws), q)
      have r10 := G.r10
      by_cases c4 : kr.length = 10
      · rw [show decide (V.int ((kr.length : Nat) : Int) = V.int 10) = true from decide_eq_true (by rw [c4]; rfl)]
        refine iteT ?_
        refine ⟨_, rfl, a, _, _, _, rfl, rfl, SqT.of (s7 _ _ ha), rfl, _, rfl, gv, _, _, _, rfl, rfl, SqL.of (s7 _ _ hg), rfl, r, _, rfl, DGet.k (k := (Sum.inr z : Key)) (s7 _ _ hrr), _, rfl, ?_⟩
        by_cases hz2 : z ∈ keys g.ropes
        · obtain ⟨x, ex⟩ := look_some hz2
          obtain ⟨v, ev, _⟩ := ar.val ex
          rw [ev]
          refine iteF ?_
          rw [if_pos hz2] at hpl
          rw [if_pos (by omega)] at eD
          exact k .non _ s7 (by rw [eS, eD]; exact .non)
        · rw [ar.valN (look_none hz2)]
          refine iteT ?_
          rw [if_neg hz2] at hpl
          rw [if_neg (by omega)] at eD
          exact fin2 _ _ _ _ s7 (eS.trans eD) fun H2 s t e => .tup e (.cons (.str _) (.cons (.int _) .nil))
      · rw [show decide (V.int ((kr.length : Nat) : Int) = V.int 10) = false from decide_eq_false (fun h => c4 (by injection h with h; omega))]
        refine iteF ?_
        refine iteF ?_
        have : (putN g.ropes z ((b, ws), q)).length ≤ 10 := by
          split at hpl <;> omega
        rw [if_pos this] at eD
        exact k .non _ s7 (by rw [eS, eD]; exact .non)) (fun _ _ _ _ _ _ us hl => match us, hl with | [_, _], _ => rfl)
end
end K7

set_option Elab.async false
set_option linter.all false
set_option maxRecDepth 100000
set_option maxHeartbeats 2000000
/-! The law's own record: what is made, what is undone. -/
namespace K7
open PySem PySem.Spec PyProof.Rows L2
theorem dget_up {H H' : Hp} {d : Addr} {y v : V} {kvs : List (Key × V)} (h : DGet H d y (some v)) (e : H d = some (.dK kvs)) (s : Same H H') : DGet H' d y (some v) := by
  rcases h with ⟨ks, k, r, e1, e2⟩ | ⟨ks, k, b, r, _⟩
  · rcases r with r | ⟨o, r⟩
    · exact .inl ⟨ks, k, .inl (s _ _ r), e1, e2⟩
    · exact .inl ⟨ks, k, .inr ⟨o, s _ _ r⟩, e1, e2⟩
  · rcases r with r | ⟨o, r⟩ <;> rw [e] at r <;> cases r
theorem made_fixed (g : Gv) (en : En) : (made g en).fixed = g.fixed := by cases en <;> rfl
section
variable {P : Program} {w : World} {K : PySem.W.Frag} {mg : Str → Option Value} {base : Heap}
theorem cal_made_entry (T : TX P K mg) : Cal P w K mg base CX0 1 "_law_made_entry" spMadeE := T.g_law_made_entry.cal (ps := ["_law_states", "_law_entry_here"]) (fun f fd F => by
  refine F.ok c_law_made_entry (fun vs H Q E h => ?_) (fun cdv A outer s H vs Q E hr h => ?_)
  · obtain ⟨d, v, st, en, rfl, _⟩ := h
    rfl
  · obtain ⟨d, v, st, en, rfl, W, O, dv, eo, due0, k⟩ := h
    have nd := c_law_made_entry.nd
    have hu := hu_of hr
    obtain ⟨a, xs, rfl, ha, ex⟩ := dEn_inv dv
    refine ⟨_, pss_cons (ps_set (i := 2) nd rfl (Or.inl rfl) (pe_callTy call_dictD (by rfl) T.f_dict (by decide +kernel) (pa_cons (pv 0) pa_nil)))
      (pss_cons (ps_par (i := 3) (j := 4) (by rfl) nd rfl rfl (by decide) rfl rfl
        (pa_cons (pe_callTy call_dictD (by rfl) T.f_dict (by decide +kernel) (pa_cons (pe_ix ix_list (pe_dget hu (pv 0) (pe_ix ix_tup (pv 1) pe_int (fun _ _ => rfl)) (fun _ _ => rfl)) pe_int (fun _ _ => rfl)) pa_nil))
        (pa_cons (pe_callTy call_dictD (by rfl) T.f_dict (by decide +kernel) (pa_cons (pe_ix ix_list (pe_dget hu (pv 0) (pe_ix ix_tup (pv 1) pe_int (fun _ _ => rfl)) (fun _ _ => rfl)) pe_int (fun _ _ => rfl)) pa_nil)) pa_nil)) (by rfl))
      (pss_cut (ps_if (pt_cmpR op_eq (pe_ix ix_tup (pv 1) pe_int (fun _ _ => rfl)) pe_str (nomark _))
          (pss_one (ps_dput hu (pv 3) (pe_ix ix_tup (pv 1) pe_int (fun _ _ => rfl)) (pe_ix ix_tup (pv 1) pe_int (fun _ _ => rfl)) rfl))
          (pss_one (ps_if (pt_cmpR op_eq (pe_ix ix_tup (pv 1) pe_int (fun _ _ => rfl)) pe_str (nomark _))
            (pss_one (ps_dput hu (pv 4) (pe_ix ix_tup (pv 1) pe_int (fun _ _ => rfl)) (pe_tup (pa_cons (pe_ix ix_tup (pv 1) pe_int (fun _ _ => rfl)) (pa_cons (pe_ix ix_tup (pv 1) pe_int (fun _ _ => rfl)) pa_nil))) rfl))
            (pss_one (ps_expr (pe_dpop1 (pv 4) (pe_ix ix_tup (pv 1) pe_int (fun _ _ => rfl)) ⟨rfl, rfl, rfl, rfl⟩))))))
      (pss_cons (ps_dput hu (pv 2) (pe_ix ix_tup (pv 1) pe_int (fun _ _ => rfl)) (pe_lst (pa_cons (pv 3) (pa_cons (pv 4) (pa_cons (pe_ix ix_list (pe_dget hu (pv 0) (pe_ix ix_tup (pv 1) pe_int (fun _ _ => rfl)) (fun _ _ => rfl)) pe_int (fun _ _ => rfl)) pa_nil)))) rfl)
      (pss_one (ps_ret (pv 2)))))), ?_⟩
    have hn := eo.1
    obtain ⟨vg, dg, WG⟩ := W.get hn
    obtain ⟨v1, v2, hd, W1, W2⟩ := W
    have G := O.get en.nm
    have eS : dueS st en = due (getG st en.nm) en := rfl
    have eM : madeS st en = setG st en.nm (made (getG st en.nm) en) := rfl
    generalize getG st en.nm = g at WG G eS eM
    obtain ⟨gv, l, r, ff, rfl, hg, ⟨kl, hl, al⟩, ⟨kr, hrr, ar⟩, WF⟩ := WG
    have x1 : xs[1]? = some (.str en.nm) := by
      cases en with
      | load u n z q => obtain ⟨vq, rfl, _⟩ := ex; rfl
      | rope u n z b ws q => obtain ⟨vp, vq, rfl, _⟩ := ex; rfl
      | drop u n z => obtain rfl := ex; rfl
    have a1 : atI xs 1 = some (.str en.nm) := atI_nat (j := 1) x1
    refine ⟨_, rfl, d, _, rfl, .inl hd, fun p1 hp1 => ?_⟩
    have s1 := same1 hp1 (.dK [((Sum.inr "one" : Key), v1), ((Sum.inr "two" : Key), v2)])
    refine ⟨_, rfl, _, rfl, a, _, _, _, rfl, rfl, SqT.of (s1 _ _ ha), a1, d, .ref gv, rfl, dget_up dg hd s1, gv, _, _, _, rfl, rfl, SqL.of (s1 _ _ hg), rfl, l, kl, rfl, .inl (s1 _ _ hl), fun p2 hp2 => ?_⟩
    have s2 := same_new s1 hp2 (.dK kl)
    refine ⟨_, rfl, _, rfl, a, _, _, _, rfl, rfl, SqT.of (s2 _ _ ha), a1, d, .ref gv, rfl, dget_up dg hd s2, gv, _, _, _, rfl, rfl, SqL.of (s2 _ _ hg), rfl, r, kr, rfl, .inl (s2 _ _ hrr), fun p3 hp3 => ?_⟩
    have s3 := same_new s2 hp3 (.dK kr)
    have n12 : p1 ≠ p2 := fun z => by subst z; rw [upd_same] at hp2; cases hp2
    have n23 : p2 ≠ p3 := fun z => by subst z; rw [upd_same] at hp3; cases hp3
    have n13 : p1 ≠ p3 := fun z => by subst z; rw [upd_ne n12, upd_same] at hp3; cases hp3
    have e1 : (upd (upd (upd H p1 (.dK [((Sum.inr "one" : Key), v1), ((Sum.inr "two" : Key), v2)])) p2 (.dK kl)) p3 (.dK kr)) p1 = some (.dK [((Sum.inr "one" : Key), v1), ((Sum.inr "two" : Key), v2)]) := by rw [upd_ne n13, upd_ne n12, upd_same]
    have e2 : (upd (upd (upd H p1 (.dK [((Sum.inr "one" : Key), v1), ((Sum.inr "two" : Key), v2)])) p2 (.dK kl)) p3 (.dK kr)) p2 = some (.dK kl) := by rw [upd_ne n23, upd_same]
    have e3 : (upd (upd (upd H p1 (.dK [((Sum.inr "one" : Key), v1), ((Sum.inr "two" : Key), v2)])) p2 (.dK kl)) p3 (.dK kr)) p3 = some (.dK kr) := upd_same
    have f1 : H p1 = none := hp1
    have f2 : H p2 = none := s1.free hp2
    have f3 : H p3 = none := s2.free hp3
    generalize upd (upd (upd H p1 (.dK [((Sum.inr "one" : Key), v1), ((Sum.inr "two" : Key), v2)])) p2 (.dK kl)) p3 (.dK kr) = H3 at s3 e1 e2 e3
    clear hp1 hp2 hp3 s1 s2
    refine ⟨_, _, rfl, ?_⟩
    refine ⟨fun σ H4 => ∃ kl' kr', σ = [some (.ref d), some (.ref a), some (.ref p1), some (.ref p2), some (.ref p3)] ∧ Same H H4 ∧ H4 p1 = some (.dK [((Sum.inr "one" : Key), v1), ((Sum.inr "two" : Key), v2)]) ∧ H4 p2 = some (.dK kl') ∧ H4 p3 = some (.dK kr') ∧ KvR dFr H4 kl' (made g en).loads ∧ KvR dRp H4 kr' (made g en).ropes, ?_, ?_⟩
    · have lkl : kl.length < sizeLine := small1000 (by rw [al.length]; have := G.l8; omega)
      have lkr : kr.length < sizeLine := small1000 (by rw [ar.length]; have := G.r10; omega)
      have keep : ∀ (p : Addr) (o : HO), H p = none → Same H (upd H3 p o) := fun p o f => fun c u e => by
        rw [upd_ne (ne_of_none e f)]
        exact s3 _ _ e
      cases en with
      | load u n z q =>
        obtain ⟨vq, rfl, dq⟩ := ex
        have m3 : Kd flatO H3 (upd H3 p2 (.dK (putK kl (Sum.inr z : Key) vq))) := kd_upd e2 rfl _
        refine ⟨_, rfl, a, _, _, _, rfl, rfl, SqT.of (s3 _ _ ha), rfl, rfl, _, rfl, ?_⟩
        rw [decide_eq_true rfl]
        refine iteT ?_
        refine ⟨_, rfl, a, _, _, _, rfl, rfl, SqT.of (s3 _ _ ha), rfl, _, rfl, _, rfl, a, _, _, _, rfl, rfl, SqT.of (s3 _ _ ha), rfl, p2, _, rfl, DPut.k (k := (Sum.inr z : Key)) e2 lkl, ?_⟩
        refine ⟨putK kl (Sum.inr z : Key) vq, kr, rfl, keep p2 _ f2, by rw [upd_ne n12]; exact e1, upd_same, by rw [upd_ne n23.symm]; exact e3, ?_, (ar.mv (kd_of s3)).mv m3⟩
        exact KvR.put ((al.mv (kd_of s3)).mv m3) ((dq.up s3).mv m3)
      | rope u n z b ws q =>
        obtain ⟨vp, vq, rfl, dp, dq⟩ := ex
        refine ⟨_, rfl, a, _, _, _, rfl, rfl, SqT.of (s3 _ _ ha), rfl, rfl, _, rfl, ?_⟩
        rw [ne_str ne_lr]
        refine iteF ?_
        refine ⟨_, rfl, a, _, _, _, rfl, rfl, SqT.of (s3 _ _ ha), rfl, rfl, _, rfl, ?_⟩
        rw [decide_eq_true rfl]
        refine iteT ?_
        refine ⟨_, rfl, a, _, _, _, rfl, rfl, SqT.of (s3 _ _ ha), rfl, _, rfl, a, _, _, _, rfl, rfl, SqT.of (s3 _ _ ha), rfl, (by show 2 ≤ sizeLine; decide), fun t ht => ?_⟩
        have s4 := same1 ht (.tup [vp, vq])
        have ntp : t ≠ p3 := (ne_of_none e3 ht).symm
        refine ⟨_, rfl, _, rfl, a, _, _, _, rfl, rfl, SqT.of ((s3.trans s4) _ _ ha), rfl, p3, _, rfl, DPut.k (k := (Sum.inr z : Key)) (s4 _ _ e3) lkr, ?_⟩
        have m3 : Kd flatO H3 (upd (upd H3 t (.tup [vp, vq])) p3 (.dK (putK kr (Sum.inr z : Key) (.ref t)))) := (kd_of s4).trans (kd_upd (s4 _ _ e3) rfl _)
        refine ⟨kl, putK kr (Sum.inr z : Key) (.ref t), rfl, ?_, by rw [upd_ne n13]; exact s4 _ _ e1, by rw [upd_ne n23]; exact s4 _ _ e2, upd_same, (al.mv (kd_of s3)).mv m3, ?_⟩
        · intro c u' e
          rw [upd_ne (ne_of_none e f3)]
          exact s4 _ _ (s3 _ _ e)
        · exact KvR.put ((ar.mv (kd_of s3)).mv m3) (dRp_mk (by rw [upd_ne ntp]; exact upd_same) ((dp.up s3).mv m3) ((dq.up s3).mv m3))
      | drop u n z =>
        obtain rfl := ex
        have hz : z ∈ keys g.ropes := by
          have : (if z ∈ keys g.ropes then none else some (Er.unknown z)) = none := eS.symm.trans due0
          split at this
          · assumption
          · cases this
        obtain ⟨x, ex⟩ := look_some hz
        obtain ⟨v, ev, _⟩ := ar.val ex
        have m3 : Kd flatO H3 (upd H3 p3 (.dK (dropK kr (Sum.inr z : Key)))) := kd_upd e3 rfl _
        refine ⟨_, rfl, a, _, _, _, rfl, rfl, SqT.of (s3 _ _ ha), rfl, rfl, _, rfl, ?_⟩
        rw [ne_str ne_dl]
        refine iteF ?_
        refine ⟨_, rfl, a, _, _, _, rfl, rfl, SqT.of (s3 _ _ ha), rfl, rfl, _, rfl, ?_⟩
        rw [ne_str ne_dr]
        refine iteF ?_
        refine ⟨_, rfl, p3, rfl, .inl ⟨kr, .inl e3⟩, _, rfl, a, _, _, _, rfl, rfl, SqT.of (s3 _ _ ha), rfl, kr, (Sum.inr z : Key), v, e3, rfl, ev, ?_⟩
        refine ⟨kl, dropK kr (Sum.inr z : Key), rfl, keep p3 _ f3, by rw [upd_ne n13]; exact e1, by rw [upd_ne n23]; exact e2, upd_same, (al.mv (kd_of s3)).mv m3, ?_⟩
        exact KvR.drop ((ar.mv (kd_of s3)).mv m3)
    · rintro σ H4 ⟨kl', kr', rfl, s4, e1', e2', e3', al', ar'⟩
      refine ⟨_, rfl, _, rfl, _, rfl, _, rfl, a, _, _, _, rfl, rfl, SqT.of (s4 _ _ ha), a1, d, .ref gv, rfl, dget_up dg hd s4, gv, _, _, _, rfl, rfl, SqL.of (s4 _ _ hg), rfl, (by show 3 ≤ sizeLine; decide), fun p4 hp4 => ?_⟩
      have s5 := same1 hp4 (.lst [.ref p2, .ref p3, .ref ff])
      refine ⟨_, rfl, _, rfl, a, _, _, _, rfl, rfl, SqT.of ((s4.trans s5) _ _ ha), a1, p1, _, rfl, DPut.k (k := (Sum.inr en.nm : Key)) (s5 _ _ e1') (by show 2 < sizeLine; decide), _, rfl, ?_⟩
      rw [put2 hn]
      have n14 : p4 ≠ p1 := (ne_of_none e1' hp4).symm
      have kZ : ∀ o : HO, Same H (upd (upd H4 p4 (.lst [.ref p2, .ref p3, .ref ff])) p1 o) := fun o c u e => by
        rw [upd_ne (ne_of_none e f1)]
        exact s5 _ _ (s4 _ _ e)
      have mZ : ∀ o : HO, Kd flatO H4 (upd (upd H4 p4 (.lst [.ref p2, .ref p3, .ref ff])) p1 o) := fun o => (kd_of s5).trans (kd_upd (s5 _ _ e1') rfl _)
      generalize hX : ([((Sum.inr "one" : Key), if en.nm = "one" then V.ref p4 else v1), ((Sum.inr "two" : Key), if en.nm = "one" then v2 else V.ref p4)] : List (Key × V)) = kZZ
      have s6 := kZ (.dK kZZ)
      have WN : GvAt (upd (upd H4 p4 (.lst [.ref p2, .ref p3, .ref ff])) p1 (.dK kZZ)) (.ref p4) (made g en) := by
        refine ⟨p4, p2, p3, ff, rfl, by rw [upd_ne n14]; exact upd_same, ⟨kl', by rw [upd_ne n12.symm]; exact s5 _ _ e2', al'.mv (mZ _)⟩, ⟨kr', by rw [upd_ne n13.symm]; exact s5 _ _ e3', ar'.mv (mZ _)⟩, ?_⟩
        rw [made_fixed]
        exact WF.up s6
      refine k p1 _ s6 ⟨_, _, by rw [upd_same, ← hX], ?_, ?_⟩
      · rw [eM]
        unfold setG
        split
        · exact WN
        · exact W1.up s6
      · rw [eM]
        unfold setG
        split
        · exact W2.up s6
        · exact WN) (fun _ _ _ _ _ _ us hl => match us, hl with | [_, _], _ => rfl)
end
end K7

set_option Elab.async false
set_option linter.all false
set_option maxRecDepth 100000
set_option maxHeartbeats 2000000
/-! The law's own record: what is undone. -/
namespace K7
open PySem PySem.Spec PyProof.Rows L2
def spUndone : Sp := fun vs H Q _ => ∃ (d ae : Addr) (f : S2) (es : List En) (xs : List V) (u : Str), vs = [.ref d, .ref ae, .str u] ∧ StA H d f ∧ S2Ok f ∧ H ae = some (.lst xs) ∧ DtL H xs (es.map dEn) ∧ (∀ en ∈ es, EnOk en ∧ EnFine en) ∧ es.length ≤ 100 ∧
  ((places es u).getLast? = none → ∀ R v H', Same H H' → H' R = some (.lst [v, .non, .non]) → Dt H' v (dEr .nothing) → Q (.ref R) H') ∧
  ∀ i en, (places es u).getLast? = some i → es[i]? = some en →
    (∀ er, replay f (without es i) = .error er → ∀ R v H', Same H H' → H' R = some (.lst [v, .non, .non]) → Dt H' v (dEr er) → Q (.ref R) H') ∧
    ∀ c', replay f (without es i) = .ok c' → ∀ R v l ls d' H', Same H H' → H' R = some (.lst [v, .ref l, .ref d']) → Dt H' v (.tuple [.str "entry", dEn en]) → H' l = some (.lst ls) → DtL H' ls ((without es i).map dEn) → StA H' d' c' → Q (.ref R) H'
section
variable {P : Program} {w : World} {K : PySem.W.Frag} {mg : Str → Option Value} {base : Heap}
theorem cal_undone (T : TX P K mg) : Cal P w K mg base CX0 3 "_law_undone" spUndone := T.g_law_undone.cal (ps := ["_law_first", "_law_entries", "_law_user"]) (fun f fd F => by
  refine F.ok c_law_undone (fun vs H Q E h => ?_) (fun cdv A outer s H vs Q E hr h => ?_)
  · obtain ⟨d, ae, f, es, xs, u, rfl, _⟩ := h
    rfl
  · obtain ⟨d, ae, f, es, xs, u, rfl, W, O, hae, h5, eok, hl, k1, k2⟩ := h
    have nd := c_law_undone.nd
    have hu0 := hr.units
    have hr1 : Room 1 _ := hr.mono (by decide)
    refine ⟨_, pss_cons (ps_setLc (i := 3) (own := [("_law_index", 4), ("_law_entry_here", 5)]) (g := gPair K 4 5) rfl nd rfl rfl (sw_true rfl rfl rfl (by decide +kernel)) (pi_enum (by rfl) T.f_enumerate (pa_cons (pv 1) pa_nil)) (blkOk_by (own := [("_law_index", 4), ("_law_entry_here", 5)]) (N := n_law_undone) (sc := defScope s_law_undone) (by decide +kernel))
        (fun _ _ _ _ _ => pg_tup rfl (pgs_cons (pg_name (i := 4) nd rfl (Or.inl rfl)) (pgs_cons (pg_name (i := 5) nd rfl (Or.inl rfl)) pgs_nil)))
        (fun _ _ _ _ _ => pts_one (pt_cmpR op_eq (pe_ix (show IxR _ (rIxT K) from ix_tup) (pv 5) pe_int (fun _ _ => rfl)) (pv 2) (nomark _))) (fun _ _ _ _ _ => pv 4))
      (pss_cons (ps_if (pt_cmpR (op_eqD hu0) (pv 3) (pe_lst pa_nil) (nomark _)) (pss_one (ps_ret (pe_lst (pa_cons (pe_tup (pa_cons pe_str (pa_cons pe_non pa_nil))) (pa_cons pe_non (pa_cons pe_non pa_nil)))))) pss_nil)
      (pss_cons (ps_par (i := 6) (j := 7) (by rfl) nd rfl rfl (by decide) rfl rfl (pa_cons (pe_op op_cat (pe_slice sl_list (pv 1) po_none (po_some (pe_ix ix_list (pv 3) (pe_un un_neg pe_int) (fun _ _ => rfl))))
          (pe_slice sl_list (pv 1) (po_some (pe_op op_add (pe_ix ix_list (pv 3) (pe_un un_neg pe_int) (fun _ _ => rfl)) pe_int)) po_none)) (pa_cons (pv 0) pa_nil)) (by rfl))
      (pss_cons (ps_for PassesOwn.never rfl (pi_list (pv 6)) (pg_name (i := 5) nd rfl (Or.inl rfl))
        (pss_cons (ps_set (i := 8) nd rfl (Or.inl rfl) (pe_cal (cal_due T) hr pass0 (pa_cons (pv 7) (pa_cons (pv 5) pa_nil))))
        (pss_cons (ps_if (pt_cmp (pc_notN (pv 8))) (pss_one (ps_ret (pe_lst (pa_cons (pv 8) (pa_cons pe_non (pa_cons pe_non pa_nil)))))) pss_nil)
        (pss_one (ps_set (i := 7) nd rfl (Or.inl rfl) (pe_cal (cal_made_entry T) hr1 pass0 (pa_cons (pv 7) (pa_cons (pv 5) pa_nil))))))))
      (pss_one (ps_ret (pe_lst (pa_cons (pe_tup (pa_cons pe_str (pa_cons (pe_ix ix_list (pv 1) (pe_ix ix_list (pv 3) (pe_un un_neg pe_int) (fun _ _ => rfl)) (fun _ _ => rfl)) pa_nil))) (pa_cons (pv 6) (pa_cons (pv 7) pa_nil))))))))), ?_⟩
    have lx : xs.length = es.length := by rw [h5.length, List.length_map]
    -- places
    refine ⟨_, rfl, ae, xs, rfl, SqL.of hae, fun D hD => ?_⟩
    have noD : ae ≠ D := ne_of_none hae hD
    refine lc_it (walk_enum (K := K) (a := ae) (xs := xs)) (fun i H2 => But D H H2 ∧ H2 D = some (.lst ((placesTo es u i).map fun n => V.int (n : Nat)))) ⟨(But.refl D H).put _, upd_same⟩ (fun i H2 _ b => SqL.of (b.1 ae _ noD hae)) ?_ ?_
    · rintro i x H2 H3 hi ⟨b, e⟩ ⟨t, x1, x2, rfl, ht, rfl, e1, e2⟩
      cases e1
      have ei : es[i]? = some es[i] := List.getElem?_eq_getElem (by omega)
      obtain ⟨dd0, ed, dd⟩ := h5.getV e2
      rw [List.getElem?_map, ei] at ed
      cases ed
      have dd2 : Dt (upd H2 t (.tup [.int (i : Nat), x2])) x2 (dEn es[i]) := dd.up ((b.same hD).trans (same1 ht _))
      obtain ⟨a2, ys, rfl, ha2, ev⟩ := dEn_inv dd2
      have eus : ys[0]? = some (.str es[i].us) := by
        cases he : es[i] with
        | load u' n z q => rw [he] at ev; obtain ⟨vq, rfl, _⟩ := ev; rfl
        | rope u' n z b' ws q => rw [he] at ev; obtain ⟨vp, vq, rfl, _⟩ := ev; rfl
        | drop u' n z => rw [he] at ev; obtain rfl := ev; rfl
      have b2 := b.new ht (.tup [.int (i : Nat), .ref a2])
      have e2' := same1 ht (.tup [.int (i : Nat), .ref a2]) _ _ e
      refine ⟨t, _, rfl, SqT.of upd_same, rfl, _, _, rfl, _, _, rfl, rfl, rfl, ?_⟩
      refine ⟨_, rfl, a2, ys, _, _, rfl, rfl, SqT.of ha2, atI_nat (j := 0) eus, _, rfl, rfl, _, rfl, ?_⟩
      by_cases c : es[i].us = u
      · rw [show decide (V.str es[i].us = V.str u) = true from decide_eq_true (by rw [c])]
        refine iteT ⟨_, rfl, _, e2', ?_, b2.put _, ?_⟩
        · rw [List.length_map]
          have : (placesTo es u i).length ≤ i := by
            have := List.length_filter_le (byU es u) (List.range i)
            rw [List.length_range] at this
            exact this
          exact small1000 (by omega)
        · have hb : byU es u i = true := decide_eq_true (by rw [ei, ← c]; rfl)
          rw [upd_same, placesTo_succ, if_pos hb, List.map_append]
          rfl
      · rw [show decide (V.str es[i].us = V.str u) = false from decide_eq_false (fun q => c (by injection q))]
        have hb : ¬ byU es u i = true := fun z => c (by have := of_decide_eq_true z; rw [ei] at this; injection this)
        refine iteF ⟨b2, ?_⟩
        rw [placesTo_succ, if_neg hb, List.append_nil]
        exact e2'
    rintro H2 ⟨b, e⟩
    rw [lx] at e
    have s2 : Same H H2 := b.same hD
    clear b hD
    -- if places == []
    refine ⟨_, rfl, (by show 0 ≤ sizeLine; exact Nat.zero_le _), fun l0 hl0 => ?_⟩
    have s3 := same1 hl0 (.lst [])
    refine ⟨.list ((places es u).map fun n => PyData.int (n : Nat)), .list [], .lst (SqL.of (s3 _ _ e)) (dp_ints _), .lst (SqL.of upd_same) .nil, (sh_ints _).shaped (by decide), by decide, _, rfl, ?_⟩
    rw [eqv_nil]
    have e3 := s3 _ _ e
    have sA : Same H (upd H2 l0 (.lst [])) := s2.trans s3
    generalize upd H2 l0 (.lst []) = HA at e3 sA
    clear s3 hl0 s2 e
    cases hg : (places es u).getLast? with
    | none =>
      have hp0 : places es u = [] := List.getLast?_eq_none_iff.mp hg
      rw [hp0]
      refine iteT ⟨(by show 2 ≤ sizeLine; decide), fun t ht => ⟨(by show 3 ≤ sizeLine; decide), fun R hR => ?_⟩⟩
      exact k1 hg R _ _ (same_new (same_new sA ht _) hR _) upd_same (.tup (same1 hR _ _ _ upd_same) (.cons (.str _) (.cons .non .nil)))
    | some i =>
      have hpn : (places es u).isEmpty = false := by
        cases hpl : places es u with
        | nil => rw [hpl] at hg; cases hg
        | cons a r => rfl
      rw [hpn]
      refine iteF ?_
      have him : i ∈ places es u := List.mem_of_getLast? hg
      have hie := places_lt him
      have ei : es[i]? = some es[i] := List.getElem?_eq_getElem hie
      obtain ⟨k3, k4⟩ := k2 i _ hg ei
      have eat := last_at hg
      -- left
      refine ⟨_, rfl, _, rfl, _, rfl, D, _, _, _, rfl, rfl, SqL.of e3, eat, _, rfl, ae, xs, rfl, SqL.of (sA _ _ hae), fun p1 hp1 => ?_⟩
      rw [cut_take (by omega)]
      have s4 := same1 hp1 (.lst (xs.take i))
      refine ⟨_, rfl, _, rfl, _, rfl, D, _, _, _, rfl, rfl, SqL.of (s4 _ _ e3), eat, _, _, rfl, rfl, _, rfl, ae, xs, rfl, SqL.of ((sA.trans s4) _ _ hae), fun p2 hp2 => ?_⟩
      rw [show ((i : Int) + 1) = ((i + 1 : Nat) : Int) by omega, cut_drop (by omega)]
      have s5 := same1 hp2 (.lst (xs.drop (i + 1)))
      refine ⟨p1, p2, _, _, rfl, rfl, s5 _ _ upd_same, upd_same, ?_, fun p3 hp3 => ?_⟩
      · rw [List.length_take, List.length_drop]
        exact Nat.le_of_lt (small1000 (by omega))
      have s6 := same_new (s4.trans s5) hp3 (.lst (xs.take i ++ xs.drop (i + 1)))
      have sB : Same H _ := sA.trans s6
      have e6 := s6 _ _ e3
      have eL : (upd (upd (upd HA p1 (.lst (xs.take i))) p2 (.lst (xs.drop (i + 1)))) p3 (.lst (xs.take i ++ xs.drop (i + 1)))) p3 = some (.lst (xs.take i ++ xs.drop (i + 1))) := upd_same
      generalize upd (upd (upd HA p1 (.lst (xs.take i))) p2 (.lst (xs.drop (i + 1)))) p3 (.lst (xs.take i ++ xs.drop (i + 1))) = HB at sB e6 eL
      clear s6 s5 s4 hp1 hp2 hp3 sA e3
      have dL : DtL HB (xs.take i ++ xs.drop (i + 1)) ((without es i).map dEn) := by
        unfold without
        rw [List.map_append, List.map_take, List.map_drop]
        exact ((h5.up sB).take).app ((h5.up sB).drop)
      generalize xs.take i ++ xs.drop (i + 1) = ls at eL dL
      have lls : ls.length = (without es i).length := by rw [dL.length, List.length_map]
      refine ⟨_, rfl, _, _, rfl, ?_⟩
      -- entry by entry
      refine ⟨_, rfl, p3, rfl, ⟨_, SqL.of eL⟩, for_list (K := K) (a := p3) (xs := ls) (fun j σ H3 => ∃ (z5 z8 : Option V) (d' : Addr) (cur : S2), σ = [some (.ref d), some (.ref ae), some (.str u), some (.ref D), none, z5, some (.ref p3), some (.ref d'), z8] ∧ Same HB H3 ∧ StA H3 d' cur ∧ S2Ok cur ∧ replay f (without es i) = replay cur ((without es i).drop j))
        ⟨none, none, d, f, rfl, Same.refl _, W.up sB, O, rfl⟩ (fun j σ H3 _ ⟨_, _, _, _, _, s, _⟩ => SqL.of (s _ _ eL)) ?_ ?_⟩
      · rintro j y σ H3 hj ⟨z5, z8, d', cur, rfl, s, Wd, Oc, er⟩
        obtain ⟨dd, ed, dy⟩ := dL.getV hj
        rw [List.getElem?_map] at ed
        obtain ⟨en, een, rfl⟩ := Option.map_eq_some_iff.mp ed
        have hdrop : (without es i).drop j = en :: (without es i).drop (j + 1) := by
          obtain ⟨hjl, ej⟩ := List.getElem?_eq_some_iff.mp een
          rw [List.drop_eq_getElem_cons hjl, ej]
        have enok : EnOk en ∧ EnFine en := by
          refine eok en ?_
          have := List.mem_of_getElem? een
          unfold without at this
          rcases List.mem_append.mp this with h | h
          · exact List.mem_of_mem_take h
          · exact List.mem_of_mem_drop h
        rw [hdrop] at er
        refine ⟨_, rfl, _, rfl, d', y, cur, en, rfl, Wd, Oc, dy.up s, enok.1, enok.2, fun v' H4 s4 dv' => ?_⟩
        cases ee : dueS cur en with
        | some e1 =>
          have h6 : replay cur (en :: (without es i).drop (j + 1)) = .error e1 := by
            show (match dueS cur en with | some er => Except.error er | none => replay (madeS cur en) _) = _
            rw [ee]
          rw [ee] at dv'
          obtain ⟨a', rfl⟩ : ∃ a', v' = .ref a' := by
            have dv2 : Dt H4 v' (dEr e1) := dv'
            cases e1 <;> (cases dv2; exact ⟨_, rfl⟩)
          refine ⟨_, rfl, _, rfl, iteT ?_⟩
          refine ⟨_, rfl, (by show 3 ≤ sizeLine; decide), fun R hR => ?_⟩
          exact k3 e1 (er.trans h6) R _ _ (same_new ((sB.trans s).trans s4) hR _) upd_same (Dt.up dv' (same1 hR _))
        | none =>
          have h6 : replay cur (en :: (without es i).drop (j + 1)) = replay (madeS cur en) ((without es i).drop (j + 1)) := by
            show (match dueS cur en with | some er => Except.error er | none => replay (madeS cur en) _) = _
            rw [ee]
          rw [ee] at dv'
          cases dv'
          refine ⟨_, rfl, _, rfl, iteF ?_⟩
          refine ⟨_, rfl, _, rfl, d', y, cur, en, rfl, Wd.up s4, Oc, dy.up (s.trans s4), enok.1, ee, fun d2 H5 s5 W5 => ?_⟩
          exact ⟨some y, some .non, d2, madeS cur en, rfl, (s.trans s4).trans s5, W5, madeS_ok Oc ee, er.trans h6⟩
      · rintro σ H3 ⟨z5, z8, d', cur, rfl, s, Wd, Oc, er⟩
        rw [lls, List.drop_length] at er
        have er' : replay f (without es i) = .ok cur := er
        have sC : Same H H3 := sB.trans s
        obtain ⟨v, ev, dv⟩ := h5.get (i := i) (d := dEn es[i]) (by rw [List.getElem?_map, ei]; rfl)
        refine ⟨_, rfl, _, rfl, _, rfl, D, _, _, _, rfl, rfl, SqL.of (s _ _ e6), eat, ae, xs, _, v, rfl, rfl, SqL.of (sC _ _ hae), atI_nat ev, (by show 2 ≤ sizeLine; decide), fun t ht => ?_⟩
        have s7 := same_new sC ht (.tup [.str "entry", v])
        refine ⟨_, rfl, _, rfl, (by show 3 ≤ sizeLine; decide), fun R hR => ?_⟩
        have s8 := same1 hR (.lst [.ref t, .ref p3, .ref d'])
        have s9 := (same1 ht (.tup [.str "entry", v])).trans s8
        exact k4 cur er' R _ p3 ls d' _ (s7.trans s8) upd_same (.tup (s8 _ _ upd_same) (.cons (.str _) (.cons (dv.up (s7.trans s8)) .nil))) (s9 _ _ (s _ _ eL)) (dL.up (s.trans s9)) (Wd.up s9)) (fun _ _ _ _ _ _ us hl => match us, hl with | [_, _, _], _ => rfl)
end
end K7

set_option Elab.async false
set_option linter.all false
set_option maxRecDepth 100000
set_option maxHeartbeats 2000000
/-! list(text); what the law carries. -/
namespace K7
open PySem PySem.Spec PyProof.Rows L2
theorem signs_at : ∀ {us : List Value} {cs : List Nat}, us.length = cs.length → (∀ (j : Nat) (v : Value), us[j]? = some v → ∃ (c : Nat) (t : Tok), cs[j]? = some c ∧ v = Value.str ⟨#[c]⟩ t) → Vals (cs.map fun c => V.str ⟨#[c]⟩) us
  | [], [], _, _ => .nil
  | u :: us, c :: cs, hl, h => by
    obtain ⟨x, t, e1, e2⟩ := h 0 u rfl
    have e1' : c = x := Option.some.inj e1
    subst e1'
    subst e2
    rw [List.map_cons]
    refine .cons ⟨t, rfl⟩ (signs_at (by simpa using hl) fun j v e => ?_)
    obtain ⟨x, t, a, b⟩ := h (j + 1) v (by simpa using e)
    exact ⟨x, t, by simpa using a, b⟩
  | [], _ :: _, hl, _ => by simp at hl
  | _ :: _, [], hl, _ => by simp at hl
def signs (z : Str) : List Str := z.cps.toList.map fun c => ⟨#[c]⟩
theorem call_listS {X : Cx} (hc : X.calm = true) : CallR X (.type "list") (fun xs H Q => ∃ z : Str, xs = [.str z] ∧ z.length ≤ 1000 ∧ ∀ p, H p = none → Q (.ref p) (upd H p (.lst ((signs z).map V.str)))) := by
  intro pins s σ H xs us Q I r q
  obtain ⟨z, rfl, hz, q⟩ := q
  obtain ⟨u, rfl, t, rfl⟩ := vals1 r
  have hz2 : z.cps.size ≤ sizeLine := Nat.le_of_lt (small1000 hz)
  refine call_list_str (I.ok.hd hc) z t (hn := hz2) fun h' tk acc c' hk hD hacc => ?_
  have hv : Vals (z.cps.toList.map fun c => V.str ⟨#[c]⟩) acc.toList := signs_at (by rw [Array.length_toList]; simpa using hacc.1) fun j v e => by
    obtain ⟨c, u, h1, h2⟩ := hacc.2 j v (by rw [← Array.getElem?_toList]; exact e)
    exact ⟨c, u, by rw [← h1]; simp, h2⟩
  have e1 : (signs z).map V.str = z.cps.toList.map fun c => V.str ⟨#[c]⟩ := by unfold signs; rw [List.map_map]; rfl
  refine ⟨.ref s.heap.objs.size, upd H s.heap.objs.size (.lst ((signs z).map V.str)), I.laid (t' := tk) hk (Nat.le_refl _)
    (show ObjOk X.prog X.w _ _ _ (.lst ((signs z).map V.str)) from ⟨by rw [e1, List.length_map]; exact hz2, acc.toList, c', by rw [e1]; exact hv, by rw [Array.toArray_toList]; exact hD⟩), rfl, q _ (I.hok.fresh (Nat.le_refl _))⟩
/-! ### fractions in a list that grows -/
def tupO : HO → Bool
  | .tup _ => true
  | _ => false
def FrV (H : Hp) (v : V) (q : Fr) : Prop := ∃ a, v = .ref a ∧ H a = some (.tup [.int q.1, .int q.2])
theorem FrV.mv {H H' : Hp} {v : V} {q : Fr} (h : FrV H v q) (k : Kd tupO H H') : FrV H' v q := by
  obtain ⟨a, e, ea⟩ := h
  exact ⟨a, e, k _ _ ea rfl⟩
theorem frV_of {H : Hp} {v : V} {q : Fr} (h : Dt H v (dFr q)) : FrV H v q := dFr_inv h
theorem FrV.dt {H : Hp} {v : V} {q : Fr} (h : FrV H v q) : Dt H v (dFr q) := by
  obtain ⟨a, rfl, e⟩ := h
  exact dFr_mk e
theorem frs_dt {H : Hp} : ∀ {xs : List V} {qs : List Fr}, Al (FrV H) xs qs → DtL H xs (qs.map dFr)
  | _, _, .nil => .nil
  | _, _, .cons h t => .cons h.dt (frs_dt t)
theorem frs_flat {H : Hp} {xs : List V} {qs : List Fr} (h : Al (FrV H) xs qs) : flatO (.lst xs) = true := by
  cases h with
  | nil => rfl
  | cons h t =>
    obtain ⟨a, rfl, _⟩ := h
    rfl
theorem Kd.tup {H H' : Hp} (k : Kd flatO H H') : Kd tupO H H' := fun b o e q => k b o e (by
  cases o with
  | tup _ => rfl
  | _ => cases q)
/-- all but D and q -/
def But2 (D q : Addr) (H H' : Hp) : Prop := ∀ b o, b ≠ D → b ≠ q → H b = some o → H' b = some o
theorem But2.refl (D q : Addr) (H : Hp) : But2 D q H H := fun _ _ _ _ h => h
theorem But2.trans {D q : Addr} {H H1 H2 : Hp} (a : But2 D q H H1) (b : But2 D q H1 H2) : But2 D q H H2 := fun c o n m h => b c o n m (a c o n m h)
theorem but2_of {D q : Addr} {H H' : Hp} (a : But q H H') : But2 D q H H' := fun c o _ m h => a c o m h
theorem but2_same {D q : Addr} {H H' : Hp} (a : Same H H') : But2 D q H H' := fun c o _ _ h => a c o h
theorem But2.put {D q : Addr} {H H' : Hp} (a : But2 D q H H') (o : HO) : But2 D q H (upd H' D o) := fun c u n m h => by rw [upd_ne n]; exact a c u n m h
theorem But2.but {D q : Addr} {H H' : Hp} (a : But2 D q H H') (n : H D = none) : But q H H' := fun c o m h => a c o (ne_of_none h n) m h
def spCarried : Sp := fun vs H Q _ => ∃ (r pl : Addr) (z : Str) (m : List (Str × Rp)) (mp : List (Str × Fr)), vs = [.ref r, .ref pl, .str z] ∧ DA dRp H r m ∧ DA dFr H pl mp ∧ keys mp = keys m ∧ m.length ≤ 10 ∧
  (∀ p ∈ m, p.2.1.1 = true ∧ 3 ≤ p.2.1.2.length ∧ p.2.1.2.length ≤ 9) ∧ (∀ p ∈ mp, FrOk p.2 ∧ FrB 62 p.2) ∧ ∀ v q H', Same H H' → Dt H' v (dFr q) → FrOk q → Q v H'
section
variable {P : Program} {w : World} {K : PySem.W.Frag} {mg : Str → Option Value} {base : Heap}
theorem cal_carried (T : TX P K mg) : Cal P w K mg base CX0 5 "_law_carried" spCarried := T.g_law_carried.cal (ps := ["_law_ropes", "_law_pulls", "_law_hook"]) (fun f fd F => by
  refine F.ok c_law_carried (fun vs H Q E h => ?_) (fun cdv A outer s H vs Q E hr h => ?_)
  · obtain ⟨r, pl, z, m, mp, rfl, _⟩ := h
    rfl
  · obtain ⟨r, pl, z, m, mp, rfl, ⟨kr, hrr, ar⟩, ⟨kp, hpp, ap⟩, ek, l10, okm, okp, k⟩ := h
    have nd := c_law_carried.nd
    have hu := hu_of hr
    have hr1 : Room 1 _ := hr.mono (by decide)
    have hr3 : Room 3 _ := hr.mono (by decide)
    refine ⟨_, pss_one (ps_ret (pe_cal (cal_sum T) hr pass0 (pa_cons (pe_lock (pe_lc (own := [("_law_name", 3)]) (g := gName 3) (tt := tYes) rfl nd (pi_keys (pv 0)) (blkOk_by (own := [("_law_name", 3)]) (N := n_law_carried) (sc := defScope s_law_carried) (by decide +kernel))
      (fun _ _ _ _ _ => pg_name (i := 3) nd rfl (Or.inl rfl)) (fun _ _ _ _ _ => pts_nil)
      (fun _ _ _ _ _ => pe_cal (cal_mul T) hr3 pass0 (pa_cons (pe_tup (pa_cons (pe_un un_neg (pe_cal (cal_coefficient T) hr1 pass0 (pa_cons (pe_ix (show IxR _ (rIxT K) from ix_tup) (pe_dget hu (pv 0) (pv 3) (fun _ _ => rfl)) pe_int (fun _ _ => rfl)) (pa_cons (pv 2) pa_nil)))) (pa_cons pe_int pa_nil))) (pa_cons (pe_dget hu (pv 1) (pv 3) (fun _ _ => rfl)) pa_nil))))) pa_nil))), ?_⟩
    have lkr : kr.length = m.length := ar.length
    refine ⟨r, _, hrr, True.intro, fun od => ?_⟩
    refine ⟨_, rfl, r, od, rfl, .inl ⟨kr, upd_same, fun D hD => ?_⟩⟩
    have nD : r ≠ D := fun z => by subst z; rw [upd_same] at hD; cases hD
    by_cases npr : pl = r
    · -- one dict for both: then it is empty
      subst npr
      have h0 : kr = kp := by rw [hrr] at hpp; cases hpp; rfl
      subst h0
      have hkr : kr = [] := by
        cases kr with
        | nil => rfl
        | cons p t =>
          exfalso
          obtain ⟨x, ex, h1, h2⟩ := ar.get (i := 0) rfl
          obtain ⟨y, ey, h3, h4⟩ := ap.get (i := 0) rfl
          obtain ⟨a1, v1, v2, e1, e2, d1, d2⟩ := dRp_inv h2
          obtain ⟨a2, e3, e4⟩ := dFr_inv h4
          rw [e1] at e3
          cases e3
          rw [e2] at e4
          injection e4 with e4
          injection e4 with e4
          injection e4 with e5 e6
          obtain ⟨aa, e7, _⟩ := dPath_inv d1
          rw [e7] at e5
          cases e5
      subst hkr
      refine lc_it (walk_keys (d := pl) (o := od) (kvs := [])) (fun i H2 => But D (upd H pl (.frz od (.dK []))) H2 ∧ H2 D = some (.lst [])) ⟨(But.refl _ _).put _, upd_same⟩ (fun i H2 _ b => b.1 pl _ nD upd_same) (fun i x H2 H3 hi => absurd hi (Nat.not_lt_zero _)) ?_
      rintro H2 ⟨b, e⟩
      refine ⟨b pl _ nD upd_same, ?_⟩
      have s2 : Same H (upd H2 pl (.dK [])) := Same.unlock hrr fun b' o nb e => b b' o (ne_of_none (show (upd H pl (.frz od (.dK []))) b' = some o by rw [upd_ne nb]; exact e) hD) (by rw [upd_ne nb]; exact e)
      exact ⟨D, [], [], rfl, by rw [upd_ne nD.symm]; exact e, rfl, .nil, by decide, (fun q hq => by cases hq), fun v H' q s3 d o => k v q H' (s2.trans s3) d o⟩
    have npD : pl ≠ D := ne_of_none (show (upd H r (.frz od (.dK kr))) pl = some (.dK kp) by rw [upd_ne npr]; exact hpp) hD
    have aL : KvR dRp (upd H r (.frz od (.dK kr))) kr m := ar.mv (kd_upd hrr rfl _)
    have pL : KvR dFr (upd H r (.frz od (.dK kr))) kp mp := ap.mv (kd_upd hrr rfl _)
    have ppL : (upd H r (.frz od (.dK kr))) pl = some (.dK kp) := by rw [upd_ne npr]; exact hpp
    refine lc_it (walk_keys (d := r) (o := od) (kvs := kr)) (fun i H2 => But D (upd H r (.frz od (.dK kr))) H2 ∧ ∃ xs qs, H2 D = some (.lst xs) ∧ Al (FrV H2) xs qs ∧ qs.length = i ∧ ∀ q ∈ qs, FrOk q ∧ FrB 130 q) ⟨(But.refl _ _).put _, [], [], upd_same, .nil, rfl, fun q hq => by cases hq⟩ (fun i H2 _ b => b.1 r _ nD upd_same) ?_ ?_
    · rintro i x H2 H3 hi ⟨b, xs, qs, e, al, lq, oq⟩ ⟨rfl, ky, v, e1, rfl⟩
      have sD : Same (upd H r (.frz od (.dK kr))) H3 := b.same hD
      obtain ⟨pr, epr, ekk, dv⟩ := aL.get e1
      have ekk : ky = Sum.inr pr.1 := ekk
      subst ekk
      have hmem := List.mem_of_getElem? epr
      obtain ⟨o1, o2, o3⟩ := okm pr hmem
      have dv2 : Dt H3 v (dRp pr.2) := dv.up sD
      obtain ⟨ar1, v1, v2, rfl, ear, d1, d2⟩ := dRp_inv dv2
      obtain ⟨at1, rfl, eat⟩ := dPath_inv d1
      rw [o1] at eat
      -- pulls[name]
      have hkp : pr.1 ∈ keys mp := by rw [ek]; exact List.mem_map_of_mem hmem
      obtain ⟨fq, efq⟩ := look_some hkp
      obtain ⟨vp, evp, dvp⟩ := pL.val efq
      obtain ⟨okf, okb⟩ := okp _ (look_mem efq)
      have hvr : ∃ vr, valV kr (Sum.inr pr.1 : Key) = some vr ∧ ∃ (aa : Addr) (w1 w2 : V) (aw : Addr) (ws : List Str), vr = .ref aa ∧ H3 aa = some (.tup [w1, w2]) ∧ w1 = .ref aw ∧ H3 aw = some (.tup (ws.map V.str)) ∧ 3 ≤ ws.length ∧ ws.length ≤ 9 := by
        obtain ⟨rr, err⟩ := look_some (m := m) (n := pr.1) (List.mem_map_of_mem hmem)
        obtain ⟨vr, evr, dvr⟩ := aL.val err
        obtain ⟨p1, p2, p3⟩ := okm _ (look_mem err)
        obtain ⟨aa, w1, w2, ea, eaa, dd1, _⟩ := dRp_inv (dvr.up sD)
        obtain ⟨aw, ew, eaw⟩ := dPath_inv dd1
        rw [p1] at eaw
        exact ⟨vr, evr, aa, w1, w2, aw, _, ea, eaa, ew, eaw, p2, p3⟩
      obtain ⟨vr, evr, aa, w1, w2, aw, ws, rfl, eaa, rfl, eaw, w3, w9⟩ := hvr
      refine ⟨rfl, ?_⟩
      refine ⟨_, rfl, _, rfl, r, .ref aa, rfl, .inl ⟨kr, _, .inr ⟨od, b r _ nD upd_same⟩, rfl, evr.symm⟩, aa, _, _, _, rfl, rfl, SqT.of eaa, rfl, _, rfl, aw, ws, z, rfl, eaw, w3, w9, fun c hc => ?_⟩
      refine ⟨_, rfl, (by show 2 ≤ sizeLine; decide), fun t ht => ?_⟩
      have s1 := same1 ht (.tup [.int (-c), .int 1])
      refine ⟨_, rfl, _, rfl, pl, vp, rfl, ?_, .ref t, vp, (-c, 1), fq, rfl, dFr_mk (q := (-c, 1)) upd_same, dvp.up (sD.trans s1), (by show (0 : Int) < 1; decide), okf.pos, ⟨?_, by show (1 : Int).natAbs < 2 ^ 4000; decide⟩, okb.mono (by decide), fun t2 ht2 => ?_⟩
      · have := DGet.k (k := (Sum.inr pr.1 : Key)) (s1 _ _ (sD _ _ ppL))
        rw [evp] at this
        exact this
      · show (-c).natAbs < 2 ^ 4000
        rw [Int.natAbs_neg]
        exact Nat.lt_of_le_of_lt hc (by decide)
      have s2 := same_new s1 ht2 (.tup [.int (mulF (-c, 1) fq).1, .int (mulF (-c, 1) fq).2])
      have ntD : t2 ≠ D := fun zz => by subst zz; rw [s1 _ _ e] at ht2; cases ht2
      refine ⟨xs, s2 _ _ e, ?_, (b.trans (but_of s2)).put _, xs ++ [.ref t2], qs ++ [mulF (-c, 1) fq], upd_same, ?_, by simp [lq], fun q hq => ?_⟩
      · rw [al.length, lq]
        exact small1000 (by omega)
      · have k2 : Kd tupO H3 (upd (upd (upd H3 t (.tup [.int (-c), .int 1])) t2 (.tup [.int (mulF (-c, 1) fq).1, .int (mulF (-c, 1) fq).2])) D (.lst (xs ++ [.ref t2]))) := (kd_of s2).trans (kd_upd (s2 _ _ e) rfl _)
        exact (al.mono fun _ _ h => h.mv k2).app (.cons ⟨t2, rfl, by rw [upd_ne ntD, upd_same]⟩ .nil)
      · rcases List.mem_append.mp hq with h | h
        · exact oq q h
        · rw [List.mem_singleton.mp h]
          refine ⟨mulF_ok (by show (0 : Int) < 1; decide) okf.pos, (mulF_b (j := 60) (k := 62) ⟨?_, ?_⟩ okb (by show (0 : Int) < 1; decide) okf.pos).mono (by decide)⟩
          · show (-c).natAbs < _
            rw [Int.natAbs_neg]
            exact Nat.lt_of_le_of_lt hc (by decide)
          · show (1 : Int).natAbs < 2 ^ 60
            decide
    · rintro H2 ⟨b, xs, qs, e, al, lq, oq⟩
      refine ⟨b r _ nD upd_same, ?_⟩
      have s2 : Same H (upd H2 r (.dK kr)) := Same.unlock hrr fun b' o nb e => b b' o (ne_of_none (show (upd H r (.frz od (.dK kr))) b' = some o by rw [upd_ne nb]; exact e) hD) (by rw [upd_ne nb]; exact e)
      have k2 : Kd tupO H2 (upd H2 r (.dK kr)) := kd_upd (b r _ nD upd_same) rfl _
      have al2 := al.mono (fun _ _ h => h.mv k2)
      exact ⟨D, xs, qs, rfl, by rw [upd_ne nD.symm]; exact e, frs_flat al2, frs_dt al2, by omega, oq, fun v H' q s3 d o => k v q H' (s2.trans s3) d o⟩) (fun _ _ _ _ _ _ us hl => match us, hl with | [_, _, _], _ => rfl)
end
end K7

set_option Elab.async false
set_option linter.all false
set_option maxRecDepth 100000
set_option maxHeartbeats 2000000
/-! dict([(name, fraction) for ..]); paths as drawn. -/
namespace K7
open PySem PySem.Spec PyProof.Rows L2
theorem merge_new : ∀ (more acc : List (Key × V)), ((acc ++ more).map (·.1)).Nodup → mergeK acc more = acc ++ more
  | [], acc, _ => by rw [List.append_nil]; rfl
  | p :: more, acc, h => by
    show mergeK (putK acc p.1 p.2) more = _
    have hn : ¬ p.1 ∈ acc.map (·.1) := by
      rw [List.map_append, List.nodup_append] at h
      intro hm
      exact h.2.2 _ hm p.1 (by simp) rfl
    have hv : valV acc p.1 = none := by
      cases q : valV acc p.1 with
      | none => rfl
      | some v => exact absurd (valV_in q) hn
    rw [putK_new _ hv, merge_new more (acc ++ [(p.1, p.2)]) (by simpa using h)]
    simp
theorem merge_nil {more : List (Key × V)} (h : (more.map (·.1)).Nodup) : mergeK [] more = more := by
  rw [merge_new more [] (by simpa using h)]
  rfl
theorem paired_imp {α β : Type} {F G : α → β → Prop} (f : ∀ a b, F a b → G a b) : ∀ {as : List α} {bs : List β}, Paired F as bs → Paired G as bs
  | _, _, .nil => .nil
  | _, _, .cons h t => .cons (f _ _ h) (paired_imp f t)
theorem paired_app {α β : Type} {F : α → β → Prop} {a : α} {b : β} : ∀ {as : List α} {bs : List β}, Paired F as bs → F a b → Paired F (as ++ [a]) (bs ++ [b])
  | _, _, .nil, h => .cons h .nil
  | _, _, .cons h t, g => .cons h (paired_app t g)
/-- the pairs of a comprehension, in its list at D -/
structure PrsAt (H : Hp) (D : Addr) (ns : List Str) (ok : Fr → Prop) (ps : List Addr) (kvs : List (Key × V)) (m : List (Str × Fr)) : Prop where
  at_ : H D = some (.lst (ps.map V.ref))
  pr : Paired (fun p kv => H p = some (.tup [kV kv.1, kv.2])) ps kvs
  al : Al (fun p r => p.1 = Sum.inr r.1 ∧ FrV H p.2 r.2) kvs m
  ek : keys m = ns
  ok : ∀ x ∈ m, ok x.2
theorem lc_pairs {J : It} {n : Nat} {G : Hp → Prop} {Y : Nat → Hp → V → Hp → Prop} (w : Walk J n G Y) {g : TG} {te : TE} {vs : List Nat} {σ : St} {H1 : Hp} {D q : Addr} {Qd : Hp → Prop} (ns : List Str) (ok : Fr → Prop) (hn : ns.length = n) (hz : n ≤ 100) (hD : H1 D = none) (hq : Pl H1 q)
    (hG : ∀ H, But2 D q H1 H → G H)
    (hs : ∀ i nm x H H', ns[i]? = some nm → But2 D q H1 H → Pl H q → H D ≠ none → Y i H x H' → ∀ Nx : V → Hp → Prop, (∀ t v r H4, But q H H4 → Pl H4 q → H4 t = some (.tup [.str nm, v]) → FrV H4 v r → ok r → Nx (.ref t) H4) → g x (wipe σ vs) H' fun σ2 H2 => wipe σ2 vs = wipe σ vs ∧ te σ2 H2 Nx)
    (k : ∀ H ps kvs m, But2 D q H1 H → Pl H q → PrsAt H D ns ok ps kvs m → Qd H) :
    ∃ W : Nat → Nat → Hp → Prop, (∃ m, W 0 m (upd H1 D (.lst []))) ∧ ∀ i m H, W i m H →
      (J.stop i H ∧ Qd H) ∨
      (J.go i H ∧ ∃ Nx : Hp → Prop, (∀ H', Nx H' → ∃ m', m' < m ∧ W (i + 1) m' H') ∧ ∀ x H', J.yld i H x H' → g x (wipe σ vs) H' fun σ2 H2 => wipe σ2 vs = wipe σ vs ∧ tYes σ2 H2 fun b H3 =>
        if b = true then te σ2 H3 fun y H4 => ∃ acc, H4 D = some (.lst acc) ∧ acc.length < sizeLine ∧ Nx (upd H4 D (.lst (acc ++ [y]))) else Nx H3) := by
  have nqD : D ≠ q := fun z => by subst z; exact hq.some hD
  refine lc_it w (fun i H => But2 D q H1 H ∧ Pl H q ∧ ∃ (ps : List Addr) (kvs : List (Key × V)) (m : List (Str × Fr)), H D = some (.lst (ps.map V.ref)) ∧ Paired (fun p kv => H p = some (.tup [kV kv.1, kv.2])) ps kvs ∧ Al (fun p r => p.1 = Sum.inr r.1 ∧ FrV H p.2 r.2) kvs m ∧ keys m = ns.take i ∧ ∀ x ∈ m, ok x.2)
    ⟨(But2.refl D q H1).put _, ?_, [], [], [], upd_same, .nil, .nil, rfl, fun x hx => by cases hx⟩ (fun i H _ p => hG H p.1) ?_ ?_
  · obtain ⟨i, j, e, z⟩ := hq
    exact ⟨i, j, by rw [upd_ne nqD.symm]; exact e, z⟩
  · rintro i x H H' hi ⟨b, pl, ps, kvs, m, e, pr, al, ek, okm⟩ y
    obtain ⟨nm, enm⟩ : ∃ nm, ns[i]? = some nm := ⟨ns[i]'(by omega), List.getElem?_eq_getElem _⟩
    refine hs i nm x H H' enm b pl (by rw [e]; exact fun z => by cases z) y _ fun t v r H4 b4 pl4 et fv okr => ?_
    have eD : H4 D = some (.lst (ps.map V.ref)) := b4 D _ nqD e
    have k4 : Kd tupO H H4 := (kd_but b4 (fun o ho => by have := pl.flat o ho; cases o <;> first | rfl | cases this)).trans (Kd.refl _)
    have k5 : Kd tupO H4 (upd H4 D (.lst (ps.map V.ref ++ [.ref t]))) := kd_upd eD rfl _
    have k6 := k4.trans k5
    have lps : ps.length = i := by
      have h1 := pr.length
      have h2 := al.length
      have h3 : (keys m).length = m.length := List.length_map ..
      rw [ek, List.length_take] at h3
      omega
    refine ⟨ps.map V.ref, eD, by rw [List.length_map]; exact small100 (by omega), (b.trans (but2_of b4)).put _, ?_, ps ++ [t], kvs ++ [((Sum.inr nm : Key), v)], m ++ [(nm, r)], by rw [upd_same, List.map_append]; rfl, ?_, ?_, ?_, ?_⟩
    · obtain ⟨i, j, e, z⟩ := pl4
      exact ⟨i, j, by rw [upd_ne nqD.symm]; exact e, z⟩
    · exact paired_app (paired_imp (fun _ _ h => k6 _ _ h rfl) pr) (k5 _ _ et rfl)
    · exact (al.mono fun _ _ h => ⟨h.1, h.2.mv k6⟩).app (.cons ⟨rfl, fv.mv k5⟩ .nil)
    · rw [List.take_add_one, enm]
      unfold keys at ek ⊢
      rw [List.map_append, ek]
      rfl
    · intro z hz
      rcases List.mem_append.mp hz with h | h
      · exact okm z h
      · rw [List.mem_singleton.mp h]
        exact okr
  · rintro H ⟨b, pl, ps, kvs, m, e, pr, al, ek, okm⟩
    rw [← hn, List.take_length] at ek
    exact k H ps kvs m b pl ⟨e, pr, al, ek, okm⟩
/-- dict(..) of them -/
theorem PrsAt.nd {H : Hp} {D : Addr} {ns : List Str} {ok : Fr → Prop} {ps : List Addr} {kvs : List (Key × V)} {m : List (Str × Fr)} (A : PrsAt H D ns ok ps kvs m) (nd : ns.Nodup) : (kvs.map (·.1)).Nodup := by
  obtain ⟨e, pr, al, ek, okm⟩ := A
  have : kvs.map (·.1) = (keys m).map Sum.inr := by
    clear pr e okm ek
    induction al with
    | nil => rfl
    | cons h t ih => rw [List.map_cons, ih, h.1]; rfl
  rw [this, ek]
  exact List.Pairwise.map _ (fun _ _ (ne : _ ≠ _) e => ne (Sum.inr.inj e)) nd
theorem PrsAt.sq {K : PySem.W.Frag} {H : Hp} {D : Addr} {ns : List Str} {ok : Fr → Prop} {ps : List Addr} {kvs : List (Key × V)} {m : List (Str × Fr)} (A : PrsAt H D ns ok ps kvs m) : Paired (fun p kv => SqT K H p [kV kv.1, kv.2]) ps kvs := paired_imp (fun _ _ h => SqT.of h) A.pr
theorem PrsAt.kv {H : Hp} {D p : Addr} {ns : List Str} {ok : Fr → Prop} {ps : List Addr} {kvs : List (Key × V)} {m : List (Str × Fr)} (A : PrsAt H D ns ok ps kvs m) (hp : H p = none) : KvR dFr (upd H p (.dK kvs)) kvs m := A.al.mono fun _ _ h => ⟨h.1, (h.2.mv (kd_new hp _)).dt⟩
theorem lc_vals {J : It} {n : Nat} {G : Hp → Prop} {Y : Nat → Hp → V → Hp → Prop} (w : Walk J n G Y) {g : TG} {te : TE} {vs : List Nat} {σ : St} {H1 : Hp} {D : Addr} {Qd : Hp → Prop} (ys : List V) (hD : H1 D = none) (hn : ys.length = n) (hz : n ≤ 500) (hG : ∀ H, But D H1 H → G H)
    (hs : ∀ i x H H', i < n → But D H1 H → Y i H x H' → ∀ Nx : V → Hp → Prop, (∀ H4 b, Same H H4 → ys[i]? = some b → Nx b H4) → g x (wipe σ vs) H' fun σ2 H2 => wipe σ2 vs = wipe σ vs ∧ te σ2 H2 Nx)
    (hd : ∀ H, But D H1 H → H D = some (.lst ys) → Qd H) :
    ∃ W : Nat → Nat → Hp → Prop, (∃ m, W 0 m (upd H1 D (.lst []))) ∧ ∀ i m H, W i m H →
      (J.stop i H ∧ Qd H) ∨ (J.go i H ∧ ∃ Nx : Hp → Prop, (∀ H', Nx H' → ∃ m', m' < m ∧ W (i + 1) m' H') ∧ ∀ x H', J.yld i H x H' → g x (wipe σ vs) H' fun σ2 H2 => wipe σ2 vs = wipe σ vs ∧ tYes σ2 H2 fun b H3 =>
        if b = true then te σ2 H3 fun y H4 => ∃ acc, H4 D = some (.lst acc) ∧ acc.length < sizeLine ∧ Nx (upd H4 D (.lst (acc ++ [y]))) else Nx H3) := by
  refine lc_it w (fun i H => But D H1 H ∧ H D = some (.lst (ys.take i))) ⟨(But.refl D H1).put _, upd_same⟩ (fun i H _ p => hG H p.1) ?_ (fun H p => hd H p.1 (by have := p.2; rw [← hn, List.take_length] at this; exact this))
  rintro i x H H' hi ⟨hb, hl⟩ y
  refine hs i x H H' hi hb y _ fun H4 b s eb => ⟨_, s _ _ hl, ?_, (hb.trans (but_of s)).put _, ?_⟩
  · rw [List.length_take]
    exact small1000 (by omega)
  · rw [upd_same, List.take_add_one, eb]
    rfl
/-! ### paths as drawn -/
theorem pth_ix {ns ws : List Str} (h : Pth ns ws) : ws.length % 2 = 1 ∧ (∀ k x, ws[0 + 2 * k]? = some x → x ∈ ns) ∧ ∀ k x, ws[1 + 2 * k]? = some x → x ∈ DIRS := by
  induction h with
  | one h =>
    refine ⟨rfl, fun k x e => ?_, fun k x e => ?_⟩
    · match k, e with
      | 0, e => cases e; exact h
      | k + 1, e => rw [List.getElem?_eq_none (by simp; omega)] at e; cases e
    · rw [List.getElem?_eq_none (by simp)] at e; cases e
  | @step ws d p t hd h ih =>
    obtain ⟨h1, h2, h3⟩ := ih
    have key : ∀ j x, (ws ++ [d, p])[j]? = some x → ws[j]? = some x ∨ (j = ws.length ∧ x = d) ∨ (j = ws.length + 1 ∧ x = p) := fun j x e => by
      rcases Nat.lt_or_ge j ws.length with hlt | hge
      · rw [List.getElem?_append_left hlt] at e
        exact .inl e
      · rw [List.getElem?_append_right hge] at e
        match hj : j - ws.length, e with
        | 0, e => cases e; exact .inr (.inl ⟨by omega, rfl⟩)
        | 1, e => cases e; exact .inr (.inr ⟨by omega, rfl⟩)
        | n + 2, e => cases e
    refine ⟨by rw [List.length_append]; show (ws.length + 2) % 2 = 1; omega, fun k x e => ?_, fun k x e => ?_⟩
    · rcases key _ _ e with e | ⟨e1, rfl⟩ | ⟨e1, rfl⟩
      · exact h2 k x e
      · omega
      · exact h
    · rcases key _ _ e with e | ⟨e1, rfl⟩ | ⟨e1, rfl⟩
      · exact h3 k x e
      · unfold DIRS
        rcases hd with rfl | rfl <;> simp
      · omega
theorem pth_path {ns ws : List Str} (h : Pth ns ws) (h3 : 3 ≤ ws.length) (h9 : ws.length ≤ 9) : PathB ns true ws = true := by
  obtain ⟨h1, h2, h4⟩ := pth_ix h
  unfold PathB
  rw [decide_eq_true h1, decide_eq_true h3, decide_eq_true (show ws.length ≤ 23 by omega)]
  have e1 : (altS 0 ws).all (fun x => decide (x ∈ ns)) = true := List.all_eq_true.mpr fun x hx => by
    obtain ⟨k, e⟩ := (mem_altS (Nat.zero_le _)).mp hx
    exact decide_eq_true (h2 k x e)
  have e2 : (altS 1 ws).all (fun x => decide (x ∈ DIRS)) = true := List.all_eq_true.mpr fun x hx => by
    obtain ⟨k, e⟩ := (mem_altS (by omega)).mp hx
    exact decide_eq_true (h4 k x e)
  rw [e1, e2]
  rfl
theorem signs_cut {z : Str} {k : Nat} (h : k ≤ z.length) : signs (cutS z none (some (k : Int))) = (signs z).take k := by
  unfold signs cutS
  rw [HT.sIx_none, HT.sIx_nat, Nat.min_eq_left h, List.drop_zero, Nat.sub_zero, List.toList_toArray, List.map_take]
theorem cut_len {z : Str} {k : Nat} (h : k ≤ z.length) : (cutS z none (some (k : Int))).length = k := by
  have e : (signs (cutS z none (some (k : Int)))).length = k := by
    rw [signs_cut h, List.length_take]
    have : (signs z).length = z.length := by unfold signs; rw [List.length_map, Array.length_toList]; rfl
    omega
  have e2 : (signs (cutS z none (some (k : Int)))).length = (cutS z none (some (k : Int))).length := by
    unfold signs
    rw [List.length_map, Array.length_toList]
    rfl
  omega
theorem signs_cutI {z : Str} {k : Int} (h0 : 0 ≤ k) (h : k ≤ z.length) : signs (cutS z none (some k)) = (signs z).take k.toNat := by
  obtain ⟨j, rfl⟩ := Int.eq_ofNat_of_zero_le h0
  exact signs_cut (by omega)
theorem cut_lenI {z : Str} {k : Int} (h0 : 0 ≤ k) (h : k ≤ z.length) : (cutS z none (some k)).length = k.toNat := by
  obtain ⟨j, rfl⟩ := Int.eq_ofNat_of_zero_le h0
  exact cut_len (by omega)
theorem sign_of {z nm : Str} {i c : Nat} (h : (signs z)[i]? = some nm) (e : z.cps[i]? = some c) : nm = ⟨#[c]⟩ := by
  unfold signs at h
  rw [List.getElem?_map, Array.getElem?_toList, e] at h
  exact (Option.some.inj h).symm
theorem signs_len (z : Str) : (signs z).length = z.cps.size := by
  unfold signs
  rw [List.length_map, Array.length_toList]
end K7

set_option Elab.async false
set_option linter.all false
set_option maxRecDepth 100000
set_option maxHeartbeats 4000000
/-! A given pair of works. -/
namespace K7
open PySem PySem.Spec PyProof.Rows L2
def ABC : List Str := signs "abcdefgh"
def PQR : List Str := signs "PQR"
def RST : List Str := signs "rstuvwxyz"
theorem abc_nd : ABC.Nodup := by decide +kernel
theorem pqr_nd : PQR.Nodup := by decide +kernel
theorem rst_nd : RST.Nodup := by decide +kernel
theorem abc_ok : ∀ n ∈ ABC, NameB n = true := by decide +kernel
theorem pqr_ok : ∀ n ∈ PQR, GreatB n = true := by decide +kernel
theorem rst_ok : ∀ n ∈ RST, NameB n = true := by decide +kernel
/-- what the law's makes -/
structure GvNew (g : Gv) : Prop where
  ok : GvOk g
  a : ("a" : Str) ∈ keys g.loads
  p : ("P" : Str) ∈ keys g.fixed
  r : ∀ n ∈ keys g.ropes, n ∈ RST
def spGiven : Sp := fun vs H Q _ => ∃ (q : Addr) (mr : Int), vs = [.ref q, .int 3, .int mr] ∧ Pl H q ∧ 0 ≤ mr ∧ mr ≤ 9 ∧
  ∀ a l r f g H', But q H H' → Pl H' q → H' a = some (.lst [.ref l, .ref r, .ref f]) → DA dFr H' l g.loads → DA dRp H' r g.ropes → DA dFr H' f g.fixed → H a = none → H l = none → H r = none → H f = none → l ≠ r → f ≠ r → GvNew g → Q (.ref a) H'
theorem head_take {l : List Str} {x : Str} {k : Nat} (h : l.head? = some x) (hk : 1 ≤ k) : x ∈ l.take k := by
  cases l with
  | nil => cases h
  | cons y l =>
    cases h
    obtain ⟨k, rfl⟩ : ∃ j, k = j + 1 := ⟨k - 1, by omega⟩
    simp
theorem mem_of_keys {α : Type} {m : List (Str × α)} {ns : List Str} {k : Nat} (h : keys m = ns.take k) {p : Str × α} (hp : p ∈ m) : p.1 ∈ ns := by
  have : p.1 ∈ keys m := List.mem_map_of_mem hp
  rw [h] at this
  exact List.mem_of_mem_take this
/-- the ropes that the law draws -/
def RG (ps : List Str) (r : Rp) : Prop := r.1.1 = true ∧ 3 ≤ r.1.2.length ∧ r.1.2.length ≤ 9 ∧ RopeB ps r = true
/-- the hooks' list, the fixed and the ropes so far -/
structure GS (q : Addr) (H Hc : Hp) (ph pf pr kh n j : Nat) (kf kr : List (Key × V)) (mf : List (Str × Fr)) (mr : List (Str × Rp)) : Prop where
  b : But q H Hc
  p : Pl Hc q
  h : Hc ph = some (.lst ((ABC.take kh).map V.str))
  h1 : 1 ≤ kh
  h3 : kh ≤ 3
  f : Hc pf = some (.dK kf)
  fr : KvR dFr Hc kf mf
  fk : keys mf = PQR.take n
  n1 : 1 ≤ n
  n3 : n ≤ 3
  fo : ∀ x ∈ mf, FrOk x.2
  fn : H pf = none
  r : Hc pr = some (.dK kr)
  rr : KvR dRp Hc kr mr
  rk : keys mr = RST.take j
  ro : ∀ x ∈ mr, RG (ABC.take kh ++ PQR.take n) x.2
  rn : H pr = none
  ne : pf ≠ pr
theorem GS.step {q : Addr} {H Hc Hd : Hp} {ph pf pr kh n j : Nat} {kf kr : List (Key × V)} {mf : List (Str × Fr)} {mr : List (Str × Rp)} (S : GS q H Hc ph pf pr kh n j kf kr mf mr) (b : But q Hc Hd) (p : Pl Hd q) : GS q H Hd ph pf pr kh n j kf kr mf mr := by
  have km : Kd midO Hc Hd := kd_but b S.p.mid
  exact ⟨S.b.trans b, p, km.flat _ _ S.h (strs_flat _), S.h1, S.h3, km _ _ S.f rfl, S.fr.mv km.flat, S.fk, S.n1, S.n3, S.fo, S.fn, km _ _ S.r rfl, S.rr.mv km.flat, S.rk, S.ro, S.rn, S.ne⟩
theorem GS.up {q : Addr} {H Hc Hd : Hp} {ph pf pr kh n j : Nat} {kf kr : List (Key × V)} {mf : List (Str × Fr)} {mr : List (Str × Rp)} (S : GS q H Hc ph pf pr kh n j kf kr mf mr) (s : Same Hc Hd) : GS q H Hd ph pf pr kh n j kf kr mf mr := S.step (but_of s) (S.p.up s)
/-- loads in a dict -/
structure LS (H Hc : Hp) (pl pr kh : Nat) (kl : List (Key × V)) (ml : List (Str × Fr)) : Prop where
  l : Hc pl = some (.dK kl)
  lr : KvR dFr Hc kl ml
  lk : keys ml = ABC.take kh
  lo : ∀ x ∈ ml, LdOk x.2
  ln : H pl = none
  ne : pl ≠ pr
theorem LS.step {q : Addr} {H Hc Hd : Hp} {pl pr kh : Nat} {kl : List (Key × V)} {ml : List (Str × Fr)} (S : LS H Hc pl pr kh kl ml) (b : But q Hc Hd) (p : Pl Hc q) : LS H Hd pl pr kh kl ml := by
  have km : Kd midO Hc Hd := kd_but b p.mid
  exact ⟨km _ _ S.l rfl, S.lr.mv km.flat, S.lk, S.lo, S.ln, S.ne⟩
theorem gv_new {kh n j : Nat} {mf ml : List (Str × Fr)} {mr : List (Str × Rp)} (h1 : 1 ≤ kh) (h3 : kh ≤ 3) (n1 : 1 ≤ n) (n3 : n ≤ 3) (fk : keys mf = PQR.take n) (lk : keys ml = ABC.take kh) (rk : keys mr = RST.take j) (fo : ∀ x ∈ mf, FrOk x.2) (lo : ∀ x ∈ ml, LdOk x.2)
    (ro : ∀ x ∈ mr, RG (ABC.take kh ++ PQR.take n) x.2) : GvNew ⟨ml, mr, mf⟩ := by
  have ll : ml.length = kh := by
    have : (keys ml).length = ml.length := List.length_map ..
    rw [lk, List.length_take, show ABC.length = 8 by decide +kernel] at this
    omega
  have lf : mf.length = n := by
    have : (keys mf).length = mf.length := List.length_map ..
    rw [fk, List.length_take, show PQR.length = 3 by decide +kernel] at this
    omega
  have lr : mr.length ≤ 9 := by
    have : (keys mr).length = mr.length := List.length_map ..
    rw [rk, List.length_take, show RST.length = 9 by decide +kernel] at this
    omega
  refine ⟨⟨by rw [lk]; exact abc_nd.sublist (List.take_sublist _ _), by rw [rk]; exact rst_nd.sublist (List.take_sublist _ _), by rw [fk]; exact pqr_nd.sublist (List.take_sublist _ _), by show 1 ≤ ml.length; omega, by show ml.length ≤ 8; omega, by show mf.length ≤ 8; omega, by show mr.length ≤ 10; omega,
    fun p hp => ⟨abc_ok _ (mem_of_keys lk hp), lo p hp⟩, fun p hp => ⟨pqr_ok _ (mem_of_keys fk hp), fo p hp⟩, fun p hp => ⟨rst_ok _ (mem_of_keys rk hp), ?_⟩⟩, ?_, ?_, ?_⟩
  · show RopeB (keys ml ++ keys mf) p.2 = true
    rw [lk, fk]
    exact (ro p hp).2.2.2
  · show _ ∈ keys ml
    rw [lk]
    exact head_take (by decide +kernel) h1
  · show _ ∈ keys mf
    rw [fk]
    exact head_take (by decide +kernel) n1
  · intro x hx
    have : x ∈ keys mr := hx
    rw [rk] at this
    exact List.mem_of_mem_take this
section
variable {P : Program} {w : World} {K : PySem.W.Frag} {mg : Str → Option Value} {base : Heap}
theorem cal_given (T : TX P K mg) : Cal P w K mg base CX0 6 "_law_given" spGiven := T.g_law_given.cal (ps := ["_law_pool_here", "_law_most_hooks", "_law_most_ropes"]) (fun f fd F => by
  refine F.ok c_law_given (fun vs H Q E h => ?_) (fun cdv A outer s H vs Q E hr h => ?_)
  · obtain ⟨q, mr, rfl, _⟩ := h
    rfl
  · obtain ⟨q, mr, rfl, hq, m0, m9, k⟩ := h
    have nd := c_law_given.nd
    have hu := hu_of hr
    have hr1 : Room 1 _ := hr.mono (by decide)
    have hr2 : Room 2 _ := hr.mono (by decide)
    have hr3 : Room 3 _ := hr.mono (by decide)
    have hr4 : Room 4 _ := hr.mono (by decide)
    have DR := cal_draw (P := P) (w := w) (base := base) T
    refine ⟨_, pss_cut (ps_set (i := 3) nd rfl (Or.inl rfl) (pe_callTy (call_listS rfl) (by rfl) T.f_list (by decide +kernel) (pa_cons (pe_slice sl_str pe_str po_none (po_some (pe_op op_add pe_int (pe_cal DR hr1 pass0 (pa_cons (pv 0) (pa_cons (pv 1) pa_nil)))))) pa_nil)))
      (pss_cut (ps_set (i := 4) nd rfl (Or.inl rfl) (pe_callTy (call_dictP rfl) (by rfl) T.f_dict (by decide +kernel) (pa_cons (pe_lc (own := [("_law_name", 5)]) (g := gName 5) (tt := tYes) rfl nd (pi_str (pe_slice sl_str pe_str po_none (po_some (pe_op op_add pe_int (pe_cal DR hr1 pass0 (pa_cons (pv 0) (pa_cons pe_int pa_nil)))))))
          (blkOk_by (own := [("_law_name", 5)]) (N := n_law_given) (sc := defScope s_law_given) (by decide +kernel)) (fun _ _ _ _ _ => pg_name (i := 5) nd rfl (Or.inl rfl)) (fun _ _ _ _ _ => pts_nil)
          (fun _ _ _ _ _ => pe_tup (pa_cons (pv 5) (pa_cons (pe_cal (cal_signed T) hr4 pass0 (pa_cons (pv 0) pa_nil)) pa_nil)))) pa_nil)))
      (pss_cons (ps_set (i := 6) nd rfl (Or.inr rfl) pe_dnewK)
      (pss_cut (ps_for PassesOwn.never rfl (pi_str (pe_slice sl_str pe_str po_none (po_some (pe_cal DR hr1 pass0 (pa_cons (pv 0) (pa_cons (pe_op op_add (pv 2) pe_int) pa_nil)))))) (pg_name (i := 5) nd rfl (Or.inl rfl))
        (pss_cons (ps_set (i := 7) nd rfl (Or.inl rfl) (pe_cal (cal_signed T) hr4 pass0 (pa_cons (pv 0) pa_nil)))
        (pss_one (ps_dput hu (pv 6) (pv 5) (pe_tup (pa_cons (pe_cal (cal_path T) hr2 pass0 (pa_cons (pv 0) (pa_cons (pe_op op_cat (pv 3) (pe_callTy (call_listD rfl) (by rfl) T.f_list (by decide +kernel) (pa_cons (pv 4) pa_nil))) pa_nil))) (pa_cons (pv 7) pa_nil))) rfl))))
      (pss_cut (ps_set (i := 8) nd rfl (Or.inl rfl) (pe_callTy (call_dictP rfl) (by rfl) T.f_dict (by decide +kernel) (pa_cons (pe_lc (own := [("_law_hook", 9)]) (g := gName 9) (tt := tYes) rfl nd (pi_list (pv 3))
          (blkOk_by (own := [("_law_hook", 9)]) (N := n_law_given) (sc := defScope s_law_given) (by decide +kernel)) (fun _ _ _ _ _ => pg_name (i := 9) nd rfl (Or.inl rfl)) (fun _ _ _ _ _ => pts_nil)
          (fun _ _ _ _ _ => pe_tup (pa_cons (pv 9) (pa_cons (pe_cal (cal_number T) hr3 pass0 (pa_cons (pv 0) pa_nil)) pa_nil)))) pa_nil)))
      (pss_cut (ps_if (pt_cmpR op_gt (pe_cal DR hr1 pass0 (pa_cons (pv 0) (pa_cons pe_int pa_nil))) pe_int (nomark _))
        (pss_cut (ps_set (i := 10) nd rfl (Or.inr rfl) (pe_callTy (call_dictP rfl) (by rfl) T.f_dict (by decide +kernel) (pa_cons (pe_lock (pe_lc (own := [("_law_name", 5)]) (g := gName 5) (tt := tYes) rfl nd (pi_keys (pv 6))
          (blkOk_by (own := [("_law_name", 5)]) (N := n_law_given) (sc := defScope s_law_given) (by decide +kernel)) (fun _ _ _ _ _ => pg_name (i := 5) nd rfl (Or.inl rfl)) (fun _ _ _ _ _ => pts_nil)
          (fun _ _ _ _ _ => pe_tup (pa_cons (pv 5) (pa_cons (pe_cal (cal_number T) hr3 pass0 (pa_cons (pv 0) pa_nil)) pa_nil))))) pa_nil)))
        (pss_cut (ps_set (i := 11) nd rfl (Or.inl rfl) (pe_callTy (call_dictP rfl) (by rfl) T.f_dict (by decide +kernel) (pa_cons (pe_lc (own := [("_law_hook", 9)]) (g := gName 9) (tt := tYes) rfl nd (pi_list (pv 3))
          (blkOk_by (own := [("_law_hook", 9)]) (N := n_law_given) (sc := defScope s_law_given) (by decide +kernel)) (fun _ _ _ _ _ => pg_name (i := 9) nd rfl (Or.inl rfl)) (fun _ _ _ _ _ => pts_nil)
          (fun _ _ _ _ _ => pe_tup (pa_cons (pv 9) (pa_cons (pe_cal (cal_carried T) hr pass0 (pa_cons (pv 6) (pa_cons (pv 10) (pa_cons (pv 9) pa_nil)))) pa_nil)))) pa_nil)))
        (pss_one (ps_if (pt_cmpR op_ge (pe_callB (cr_min rfl) (by rfl) T.f_min (by decide +kernel) (pa_cons (pe_lock (pe_lc (own := [("_law_load", 12)]) (g := gName 12) (tt := tYes) rfl nd (pi_values (pv 11))
            (blkOk_by (own := [("_law_load", 12)]) (N := n_law_given) (sc := defScope s_law_given) (by decide +kernel)) (fun _ _ _ _ _ => pg_name (i := 12) nd rfl (Or.inl rfl)) (fun _ _ _ _ _ => pts_nil)
            (fun _ _ _ _ _ => pe_ix (show IxR _ (rIxT K) from ix_tup) (pv 12) pe_int (fun _ _ => rfl)))) pa_nil)) pe_int (nomark _)) (pss_one (ps_set (i := 8) nd rfl (Or.inl rfl) (pv 11))) pss_nil)))) pss_nil)
      (pss_one (ps_ret (pe_lst (pa_cons (pv 8) (pa_cons (pv 6) (pa_cons (pv 4) pa_nil))))))))))), ?_⟩
    -- hooks
    refine ⟨fun σ H1 => ∃ ph kh, σ = [some (.ref q), some (.int 3), some (.int mr), some (.ref ph), none, none, none, none, none, none, none, none, none] ∧ But q H H1 ∧ Pl H1 q ∧ H1 ph = some (.lst ((ABC.take kh).map V.str)) ∧ 1 ≤ kh ∧ kh ≤ 3, ?_, ?_⟩
    · refine ⟨_, rfl, _, rfl, q, 3, rfl, hq, by decide, by decide, fun r1 H1 a1 b1 t1 p1 => ⟨_, _, rfl, rfl, _, rfl, _, rfl, by decide +kernel, _, rfl, ?_, fun ph hph => ?_⟩⟩
      · rw [cut_lenI (by omega) (by show 1 + r1 ≤ 8; omega)]
        omega
      · refine ⟨ph, (1 + r1).toNat, rfl, t1.new hph _, p1.up (same1 hph _), ?_, by omega, by omega⟩
        rw [upd_same, signs_cutI (by omega) (by show 1 + r1 ≤ 8; omega)]
        rfl
    rintro σ H1 ⟨ph, kh, rfl, t1, p1, hh1, h1, h3⟩
    -- fixed
    refine ⟨fun σ H2 => ∃ pf n kf mf, σ = [some (.ref q), some (.int 3), some (.int mr), some (.ref ph), some (.ref pf), none, none, none, none, none, none, none, none] ∧ But q H H2 ∧ Pl H2 q ∧ H2 ph = some (.lst ((ABC.take kh).map V.str)) ∧ H2 pf = some (.dK kf) ∧ KvR dFr H2 kf mf ∧ keys mf = PQR.take n ∧ 1 ≤ n ∧ n ≤ 3 ∧ (∀ x ∈ mf, FrOk x.2) ∧ H pf = none, ?_, ?_⟩
    · refine ⟨_, rfl, q, 3, rfl, p1, by decide, by decide, fun r2 H2 a2 b2 t2 p2 => ⟨_, _, rfl, rfl, _, rfl, _, rfl, by decide +kernel, _, rfl, fun D hD => ?_⟩⟩
      have hh2 := kd_but t2 p1.flat _ _ hh1 (strs_flat _)
      have lz : (signs (cutS "PQR" none (some (1 + r2)))).length = (1 + r2).toNat := by rw [signs_len]; exact cut_lenI (by omega) (by show 1 + r2 ≤ 3; omega)
      have ez : signs (cutS "PQR" none (some (1 + r2))) = PQR.take (1 + r2).toNat := signs_cutI (by omega) (by show 1 + r2 ≤ 3; omega)
      refine lc_pairs walk_str (signs (cutS "PQR" none (some (1 + r2)))) FrOk (signs_len _) (by rw [← signs_len, lz]; omega) hD p2 (fun _ _ => True.intro) ?_ ?_
      · rintro i nm x H3 H4 enm b pl nDn ⟨rfl, c, ec, rfl⟩ Nx hN
        refine ⟨rfl, _, rfl, _, rfl, q, rfl, pl, fun v r H5 t5 p5 d5 o5 b5 => ⟨(by show 2 ≤ sizeLine; decide), fun t ht => ?_⟩⟩
        have en := sign_of enm ec
        subst en
        exact hN t v r _ (t5.new ht _) (p5.up (same1 ht _)) upd_same (frV_of (d5.up (same1 ht _))) o5
      · rintro H3 ps kvs m b pl A
        refine ⟨D, ps, kvs, rfl, SqL.of A.at_, A.sq, fun pf nf => ?_⟩
        rw [merge_nil (A.nd (by rw [ez]; exact pqr_nd.sublist (List.take_sublist _ _)))]
        have s4 := same1 nf (.dK kvs)
        have ef : (upd H3 pf (.dK kvs)) pf = some (.dK kvs) := upd_same
        have kv := A.kv nf
        have ek := A.ek
        have ok := A.ok
        generalize upd H3 pf (.dK kvs) = HN at s4 ef kv ⊢
        have b3 : But q H2 H3 := b.but hD
        have b4 : But q H2 HN := b3.trans (but_of s4)
        have npq : pf ≠ q := fun z => by subst z; exact pl.some nf
        refine ⟨pf, (1 + r2).toNat, kvs, m, rfl, (t1.trans t2).trans b4, pl.up s4, kd_but b4 p2.flat _ _ hh2 (strs_flat _), ef, kv, by rw [ek, ez], by omega, by omega, ok, ?_⟩
        exact ((t1.trans t2).trans b3).free npq nf
    rintro σ H2 ⟨pf, n, kf, mf, rfl, t2, p2, hh2, ef, kvf, fk, n1, n3, fo, fn⟩
    -- ropes
    intro pr hpr
    have nprq : pr ≠ q := fun z => by subst z; exact p2.some hpr
    have npf : pf ≠ pr := ne_of_none ef hpr
    have S0 : GS q H (upd H2 pr (.dK [])) ph pf pr kh n 0 kf [] mf [] := by
      have s := same1 hpr (.dK [])
      exact ⟨t2.new hpr _, p2.up s, s _ _ hh2, h1, h3, s _ _ ef, kvf.mv (kd_of s), fk, n1, n3, fo, fn, upd_same, .nil, rfl, (fun x hx => by cases hx), t2.free nprq hpr, npf⟩
    generalize upd H2 pr (.dK []) = H3 at S0
    refine ⟨fun σ H4 => ∃ z5 z7 j kr mr', σ = [some (.ref q), some (.int 3), some (.int mr), some (.ref ph), some (.ref pf), z5, some (.ref pr), z7, none, none, none, none, none] ∧ GS q H H4 ph pf pr kh n j kf kr mf mr', ?_, ?_⟩
    · refine ⟨_, rfl, _, rfl, _, _, rfl, rfl, q, _, rfl, S0.p, by omega, by omega, fun r4 H4 a4 b4 t4 p4 => ⟨_, rfl, _, rfl, by decide +kernel, _, rfl, ?_⟩⟩
      have S4 := S0.step t4 p4
      have lz : (cutS "rstuvwxyz" none (some r4)).cps.size = r4.toNat := cut_lenI a4 (by show r4 ≤ 9; omega)
      have ez : signs (cutS "rstuvwxyz" none (some r4)) = RST.take r4.toNat := signs_cutI a4 (by show r4 ≤ 9; omega)
      refine for_it walk_str (fun i σ H5 => ∃ z5 z7 kr mr', σ = [some (.ref q), some (.int 3), some (.int mr), some (.ref ph), some (.ref pf), z5, some (.ref pr), z7, none, none, none, none, none] ∧ GS q H H5 ph pf pr kh n i kf kr mf mr') ⟨none, none, [], [], rfl, S4⟩ (fun _ _ _ _ _ => True.intro) ?_ ?_
      · rintro i x σ H5 H6 hi ⟨z5, z7, kr, mr', rfl, S⟩ ⟨rfl, c, ec, rfl⟩
        have hi9 : i < r4.toNat := by rw [← lz]; exact hi
        have hr9 : r4.toNat ≤ 9 := by omega
        obtain ⟨nm, enm⟩ : ∃ nm, RST[i]? = some nm := ⟨RST[i]'(by show i < 9; omega), List.getElem?_eq_getElem _⟩
        have enc : nm = ⟨#[c]⟩ := by
          refine sign_of (z := cutS "rstuvwxyz" none (some r4)) (i := i) ?_ ec
          rw [ez, List.getElem?_take, if_pos hi9]
          exact enm
        subst enc
        refine ⟨_, rfl, q, rfl, S.p, fun vl rl H7 t7 p7 d7 o7 b7 => ?_⟩
        have S7 := S.step t7 p7
        -- (path, length)
        refine ⟨_, rfl, _, rfl, _, rfl, pf, kf, rfl, .inl S7.f, fun pk hpk => ?_⟩
        rw [keys_kV (S7.fr.keys.trans (by rw [show mf.map (·.1) = keys mf from rfl, fk]))]
        have s8 := same1 hpk (.lst ((PQR.take n).map V.str))
        refine ⟨ph, pk, _, _, rfl, rfl, s8 _ _ S7.h, upd_same, ?_, fun pc hpc => ?_⟩
        · rw [List.length_map, List.length_map, List.length_take, List.length_take]
          exact Nat.le_of_lt (small1000 (by omega))
        have s9 := same_new s8 hpc (.lst ((ABC.take kh).map V.str ++ (PQR.take n).map V.str))
        have lABC : ABC.length = 8 := by decide +kernel
        have lPQR : PQR.length = 3 := by decide +kernel
        refine ⟨q, pc, ABC.take kh ++ PQR.take n, rfl, S7.p.up s9, by rw [upd_same, List.map_append], ?_, ?_, ?_, fun pp ws H10 t10 p10 e10 hp10 l3 l9 => ?_⟩
        · rw [List.length_append, List.length_take, List.length_take]
          omega
        · rw [List.length_append, List.length_take, List.length_take]
          omega
        · intro x hx
          rcases List.mem_append.mp hx with h | h
          · exact WordB.len (abc_ok x (List.mem_of_mem_take h))
          · exact WordB.len (pqr_ok x (List.mem_of_mem_take h))
        have S10 := (S7.up s9).step t10 p10
        have k10 : Kd flatO H7 H10 := (kd_of s9).trans (kd_but t10 (S7.p.up s9).flat)
        refine ⟨_, rfl, (by show 2 ≤ sizeLine; decide), fun t ht => ?_⟩
        have s11 := same1 ht (.tup [.ref pp, vl])
        have S11 := S10.up s11
        have ntr : t ≠ pr := (ne_of_none S10.r ht).symm
        have lkr : kr.length = i := by
          have h1 := S.rr.length
          have h2 : (keys mr').length = mr'.length := List.length_map ..
          rw [S.rk, List.length_take, show RST.length = 9 by decide +kernel] at h2
          omega
        refine ⟨_, rfl, _, rfl, pr, _, rfl, DPut.k (k := (Sum.inr ⟨#[c]⟩ : Key)) S11.r (small100 (by omega)), ?_⟩
        have rO : RopeB (ABC.take kh ++ PQR.take n) ((true, ws), rl) = true := by
          unfold RopeB
          rw [pth_path hp10 l3 l9, decide_eq_true o7]
          rfl
        have m12 : Kd flatO (upd H10 t (.tup [.ref pp, vl])) (upd (upd H10 t (.tup [.ref pp, vl])) pr (.dK (putK kr (Sum.inr ⟨#[c]⟩ : Key) (.ref t)))) := kd_upd S11.r rfl _
        have b12 : But pr (upd H10 t (.tup [.ref pp, vl])) (upd (upd H10 t (.tup [.ref pp, vl])) pr (.dK (putK kr (Sum.inr ⟨#[c]⟩ : Key) (.ref t)))) := (But.refl pr _).put _
        have dT : Dt (upd (upd H10 t (.tup [.ref pp, vl])) pr (.dK (putK kr (Sum.inr ⟨#[c]⟩ : Key) (.ref t)))) (.ref t) (dRp ((true, ws), rl)) := by
          refine Dt.mv (dRp_mk upd_same ?_ ?_) m12
          · exact dPath_mk (s11 _ _ e10)
          · exact (d7.mv k10).up s11
        have hnk : ¬ (⟨#[c]⟩ : Str) ∈ keys mr' := by
          rw [S.rk]
          intro hm
          obtain ⟨jj, hj⟩ := List.getElem?_of_mem hm
          rw [List.getElem?_take] at hj
          split at hj
          · have := nd_ix rst_nd hj enm
            omega
          · cases hj
        have nqr : q ≠ pr := fun z => nprq z.symm
        refine ⟨_, _, putK kr (Sum.inr ⟨#[c]⟩ : Key) (.ref t), putN mr' ⟨#[c]⟩ ((true, ws), rl), rfl, ?_⟩
        refine ⟨?_, ?_, m12 _ _ S11.h (strs_flat _), h1, h3, b12 _ _ npf S11.f, S11.fr.mv m12, fk, n1, n3, fo, fn, upd_same, KvR.put (S11.rr.mv m12) dT, ?_, ?_, S.rn, npf⟩
        · intro b o nb e
          have nbr : b ≠ pr := ne_of_none e S.rn
          rw [upd_ne nbr]
          exact S11.b b o nb e
        · obtain ⟨i', j', e, z⟩ := S11.p
          exact ⟨i', j', by rw [upd_ne nqr]; exact e, z⟩
        · rw [keys_putN, if_neg hnk, S.rk, List.take_add_one, enm]
          rfl
        · intro x hx
          rcases mem_putN hx with h | rfl
          · exact S.ro x h
          · exact ⟨rfl, l3, l9, rO⟩
      · rintro σ H5 ⟨z5, z7, kr, mr', rfl, S⟩
        exact ⟨z5, z7, _, kr, mr', rfl, S⟩
    rintro σ H4 ⟨z5, z7, j, kr, mr', rfl, S4⟩
    have nABC : (ABC.take kh).Nodup := abc_nd.sublist (List.take_sublist _ _)
    have lABC : (ABC.take kh).length = kh := by rw [List.length_take, show ABC.length = 8 by decide +kernel]; omega
    -- loads
    refine ⟨fun σ H5 => ∃ pl kl ml, σ = [some (.ref q), some (.int 3), some (.int mr), some (.ref ph), some (.ref pf), z5, some (.ref pr), z7, some (.ref pl), none, none, none, none] ∧ GS q H H5 ph pf pr kh n j kf kr mf mr' ∧ LS H H5 pl pr kh kl ml, ?_, ?_⟩
    · refine ⟨_, rfl, ph, rfl, ⟨_, SqL.of S4.h⟩, fun D hD => ?_⟩
      have nhD : ph ≠ D := ne_of_none S4.h hD
      have nhq : ph ≠ q := fun z => by subst z; have := S4.p.flat _ S4.h; rw [strs_flat] at this; cases this
      refine lc_pairs (walk_list (K := K) (a := ph) (xs := (ABC.take kh).map V.str)) (ABC.take kh) LdOk (List.length_map ..).symm (by rw [List.length_map, lABC]; omega) hD S4.p (fun H5 b => SqL.of (b ph _ nhD nhq S4.h)) ?_ ?_
      · rintro i nm x H5 H6 enm b pl nDn ⟨rfl, ex⟩ Nx hN
        rw [List.getElem?_map, enm] at ex
        cases ex
        refine ⟨rfl, _, rfl, _, rfl, q, rfl, pl, fun v r H7 t7 p7 d7 o7 b7 => ⟨(by show 2 ≤ sizeLine; decide), fun t ht => ?_⟩⟩
        exact hN t v r _ (t7.new ht _) (p7.up (same1 ht _)) upd_same (frV_of (d7.up (same1 ht _))) o7
      · rintro H5 ps kvs m b pl A
        refine ⟨D, ps, kvs, rfl, SqL.of A.at_, A.sq, fun p5 nf => ?_⟩
        rw [merge_nil (A.nd nABC)]
        have s6 := same1 nf (.dK kvs)
        have e5 : (upd H5 p5 (.dK kvs)) p5 = some (.dK kvs) := upd_same
        have kv := A.kv nf
        have ek := A.ek
        have ok := A.ok
        generalize upd H5 p5 (.dK kvs) = HN at s6 e5 kv ⊢
        have S6 := (S4.step (b.but hD) pl).up s6
        have npq : p5 ≠ q := fun z => by subst z; exact pl.some nf
        have S5 := S4.step (b.but hD) pl
        exact ⟨p5, kvs, m, rfl, S6, e5, kv, ek, ok, S5.b.free npq nf, (ne_of_none S5.r nf).symm⟩
    rintro σ H5 ⟨pl, kl, ml, rfl, S5, L5⟩
    -- what the ropes carry
    refine ⟨fun σ H6 => ∃ pl kl ml z10 z11, σ = [some (.ref q), some (.int 3), some (.int mr), some (.ref ph), some (.ref pf), z5, some (.ref pr), z7, some (.ref pl), none, z10, z11, none] ∧ GS q H H6 ph pf pr kh n j kf kr mf mr' ∧ LS H H6 pl pr kh kl ml, ?_, ?_⟩
    · refine ⟨_, rfl, q, 3, rfl, S5.p, by decide, by decide, fun r6 H6 a6 b6 t6 p6 => ⟨_, _, rfl, rfl, _, rfl, ite2 (fun _ => ?_) (fun _ => ?_)⟩⟩
      case refine_2 => exact ⟨pl, kl, ml, none, none, rfl, S5.step t6 p6, L5.step t6 S5.p⟩
      have S6 := S5.step t6 p6
      have L6 := L5.step t6 S5.p
      clear S5 L5
      -- pulls
      refine ⟨fun σ H7 => ∃ pp kp mp, σ = [some (.ref q), some (.int 3), some (.int mr), some (.ref ph), some (.ref pf), z5, some (.ref pr), z7, some (.ref pl), none, some (.ref pp), none, none] ∧ GS q H H7 ph pf pr kh n j kf kr mf mr' ∧ LS H H7 pl pr kh kl ml ∧ H7 pp = some (.dK kp) ∧ KvR dFr H7 kp mp ∧ keys mp = keys mr' ∧ ∀ x ∈ mp, LdOk x.2 ∧ FrB 62 x.2, ?_, ?_⟩
      · refine ⟨pr, _, S6.r, True.intro, fun od => ?_⟩
        refine ⟨_, rfl, pr, od, rfl, .inl ⟨kr, upd_same, fun D hD => ?_⟩⟩
        have nrD : pr ≠ D := fun z => by subst z; rw [upd_same] at hD; cases hD
        have hD0 : H6 D = none := by rw [upd_ne nrD.symm] at hD; exact hD
        have pL : Pl (upd H6 pr (.frz od (.dK kr))) q := by
          obtain ⟨i', j', e, z⟩ := S6.p
          exact ⟨i', j', by rw [upd_ne (fun z => nprq z.symm)]; exact e, z⟩
        have rkl : kr.length = (keys mr').length := by rw [S6.rr.length]; exact (List.length_map ..).symm
        have rk9 : (keys mr').length ≤ 9 := by rw [S6.rk, List.length_take, show RST.length = 9 by decide +kernel]; omega
        refine lc_pairs (walk_keys (d := pr) (o := od) (kvs := kr)) (keys mr') (fun r => LdOk r ∧ FrB 62 r) rkl.symm (by omega) hD pL (fun H7 b => b pr _ nrD nprq upd_same) ?_ ?_
        · rintro i nm x H7 H8 enm b pl' nDn ⟨rfl, ky, v, e1, rfl⟩ Nx hN
          obtain ⟨pr0, ep, ekk, _⟩ := S6.rr.get e1
          have enm' : nm = pr0.1 := by
            have : (keys mr')[i]? = some pr0.1 := by unfold keys; rw [List.getElem?_map, ep]; rfl
            rw [this] at enm
            exact (Option.some.inj enm).symm
          subst enm'
          have ekk : ky = Sum.inr pr0.1 := ekk
          subst ekk
          refine ⟨rfl, _, rfl, _, rfl, q, rfl, pl', fun v r H9 t9 p9 d9 o9 b9 => ⟨(by show 2 ≤ sizeLine; decide), fun t ht => ?_⟩⟩
          exact hN t v r _ (t9.new ht _) (p9.up (same1 ht _)) upd_same (frV_of (d9.up (same1 ht _))) ⟨o9, b9⟩
        · rintro H7 ps kvs m b pl' A
          have e7 : H7 pr = some (.frz od (.dK kr)) := b pr _ nrD nprq upd_same
          refine ⟨e7, ?_⟩
          have kt : Kd tupO H7 (upd H7 pr (.dK kr)) := kd_upd e7 rfl _
          have A2 : PrsAt (upd H7 pr (.dK kr)) D (keys mr') (fun r => LdOk r ∧ FrB 62 r) ps kvs m := ⟨by rw [upd_ne nrD.symm]; exact A.at_, paired_imp (fun _ _ h => kt _ _ h rfl) A.pr, A.al.mono fun _ _ h => ⟨h.1, h.2.mv kt⟩, A.ek, A.ok⟩
          have bZ : But q H6 (upd H7 pr (.dK kr)) := fun c o nc e => by
            by_cases z : c = pr
            · subst z
              rw [S6.r] at e
              cases e
              exact upd_same
            · rw [upd_ne z]
              exact b c o (ne_of_none e hD0) nc (by rw [upd_ne z]; exact e)
          have pZ : Pl (upd H7 pr (.dK kr)) q := by
            obtain ⟨i', j', e, z⟩ := pl'
            exact ⟨i', j', by rw [upd_ne (fun z => nprq z.symm)]; exact e, z⟩
          refine ⟨D, ps, kvs, rfl, SqL.of A2.at_, A2.sq, fun p8 nf => ?_⟩
          rw [merge_nil (A2.nd (by rw [S6.rk]; exact rst_nd.sublist (List.take_sublist _ _)))]
          have s8 := same1 nf (.dK kvs)
          have e8 : (upd (upd H7 pr (.dK kr)) p8 (.dK kvs)) p8 = some (.dK kvs) := upd_same
          have kv := A2.kv nf
          have ek := A2.ek
          have ok := A2.ok
          generalize upd (upd H7 pr (.dK kr)) p8 (.dK kvs) = HN at s8 e8 kv ⊢
          exact ⟨p8, kvs, m, rfl, (S6.step bZ pZ).up s8, (L6.step bZ S6.p).step (but_of s8) pZ, e8, kv, ek, ok⟩
      rintro σ H7 ⟨pp, kp, mp, rfl, S7, L7, epp, kvp, pk, po⟩
      clear S6 L6
      -- carried
      refine ⟨fun σ H8 => ∃ pc kc mc, σ = [some (.ref q), some (.int 3), some (.int mr), some (.ref ph), some (.ref pf), z5, some (.ref pr), z7, some (.ref pl), none, some (.ref pp), some (.ref pc), none] ∧ GS q H H8 ph pf pr kh n j kf kr mf mr' ∧ LS H H8 pl pr kh kl ml ∧ H8 pc = some (.dK kc) ∧ KvR dFr H8 kc mc ∧ keys mc = ABC.take kh ∧ (∀ x ∈ mc, FrOk x.2) ∧ H pc = none ∧ pc ≠ pr, ?_, ?_⟩
      · refine ⟨_, rfl, ph, rfl, ⟨_, SqL.of S7.h⟩, fun D hD => ?_⟩
        have nhD : ph ≠ D := ne_of_none S7.h hD
        have nhq : ph ≠ q := fun z => by subst z; have := S7.p.flat _ S7.h; rw [strs_flat] at this; cases this
        refine lc_pairs (walk_list (K := K) (a := ph) (xs := (ABC.take kh).map V.str)) (ABC.take kh) FrOk (List.length_map ..).symm (by rw [List.length_map, lABC]; omega) hD S7.p (fun H8 b => SqL.of (b ph _ nhD nhq S7.h)) ?_ ?_
        · rintro i nm x H8 H9 enm b pl' nDn ⟨rfl, ex⟩ Nx hN
          rw [List.getElem?_map, enm] at ex
          cases ex
          have S9 := S7.step (b.but hD) pl'
          have k9 : Kd midO H7 H9 := kd_but (b.but hD) S7.p.mid
          refine ⟨rfl, _, rfl, _, rfl, _, rfl, _, rfl, pr, pp, nm, mr', mp, rfl, ⟨kr, S9.r, S9.rr⟩, ⟨kp, k9 _ _ epp rfl, kvp.mv k9.flat⟩, pk, ?_, fun p hp => ⟨(S9.ro p hp).1, (S9.ro p hp).2.1, (S9.ro p hp).2.2.1⟩, fun p hp => ⟨(po p hp).1.1, (po p hp).2⟩, fun v r H10 s10 d10 o10 => ⟨(by show 2 ≤ sizeLine; decide), fun t ht => ?_⟩⟩
          · have h2 : (keys mr').length = mr'.length := List.length_map ..
            rw [S9.rk, List.length_take, show RST.length = 9 by decide +kernel] at h2
            omega
          · exact hN t v r _ ((but_of s10).new ht _) ((pl'.up s10).up (same1 ht _)) upd_same (frV_of (d10.up (same1 ht _))) o10
        · rintro H8 ps kvs m b pl' A
          refine ⟨D, ps, kvs, rfl, SqL.of A.at_, A.sq, fun p9 nf => ?_⟩
          rw [merge_nil (A.nd nABC)]
          have s9 := same1 nf (.dK kvs)
          have e9 : (upd H8 p9 (.dK kvs)) p9 = some (.dK kvs) := upd_same
          have kv := A.kv nf
          have ek := A.ek
          have ok := A.ok
          generalize upd H8 p9 (.dK kvs) = HN at s9 e9 kv ⊢
          have S8 := S7.step (b.but hD) pl'
          have npq : p9 ≠ q := fun z => by subst z; exact pl'.some nf
          exact ⟨p9, kvs, m, rfl, S8.up s9, (L7.step (b.but hD) S7.p).step (but_of s9) pl', e9, kv, ek, ok, S8.b.free npq nf, (ne_of_none S8.r nf).symm⟩
      rintro σ H8 ⟨pc, kc, mc, rfl, S8, L8, epc, kvc, ck, co, cn, cne⟩
      clear S7 L7
      -- min(..) >= 0
      refine ⟨pc, _, epc, True.intro, fun od => ?_⟩
      refine ⟨_, rfl, pc, od, kc, rfl, upd_same, fun D hD => ?_⟩
      have ncD : pc ≠ D := fun z => by subst z; rw [upd_same] at hD; cases hD
      have lkc : kc.length = mc.length := kvc.length
      have lmc : mc.length = kh := by
        have : (keys mc).length = mc.length := List.length_map ..
        rw [ck, lABC] at this
        omega
      have kvL : KvR dFr (upd H8 pc (.frz od (.dK kc))) kc mc := kvc.mv (kd_upd epc rfl _)
      refine lc_vals (walk_values (d := pc) (o := od) (kvs := kc)) (mc.map fun x => V.int x.2.1) hD (by rw [List.length_map, lkc]) (by omega) (fun H9 b => b pc _ ncD upd_same) ?_ ?_
      · rintro i x H9 H10 hi b ⟨rfl, ky, e1⟩ Nx hN
        obtain ⟨p0, ep, _, dv⟩ := (kvL.mv (kd_of (b.same hD))).get e1
        obtain ⟨ap, rfl, eap⟩ := dFr_inv dv
        exact ⟨rfl, _, rfl, ap, _, _, _, rfl, rfl, SqT.of eap, rfl, hN _ _ (Same.refl _) (by rw [List.getElem?_map, ep]; rfl)⟩
      · rintro H9 b e9
        refine ⟨b pc _ ncD upd_same, ?_⟩
        have s9 : Same H8 (upd H9 pc (.dK kc)) := Same.unlock epc fun b' o nb e => b b' o (ne_of_none (show (upd H8 pc (.frz od (.dK kc))) b' = some o by rw [upd_ne nb]; exact e) hD) (by rw [upd_ne nb]; exact e)
        have e10 : (upd H9 pc (.dK kc)) D = some (.lst ((mc.map fun x => x.2.1).map V.int)) := by
          rw [upd_ne ncD.symm, e9, List.map_map]
          rfl
        generalize upd H9 pc (.dK kc) = HZ at s9 e10
        have SZ := S8.up s9
        have LZ := L8.step (but_of s9) S8.p
        refine ⟨D, mc.map fun x => x.2.1, rfl, SqL.of e10, by rw [List.length_map]; omega, fun m hm hle => ?_⟩
        refine ⟨_, _, rfl, rfl, _, rfl, ite2 (fun hge => ?_) (fun _ => ?_)⟩
        · have hm0 : 0 ≤ m := of_decide_eq_true hge
          refine ⟨_, rfl, pc, kc, mc, _, _, rfl, SZ, s9 _ _ epc, kvc.mv (kd_of s9), ck, fun x hx => ⟨co x hx, ?_⟩, cn, cne⟩
          have := hle x.2.1 (List.mem_map_of_mem hx)
          omega
        · exact ⟨pl, kl, ml, _, _, rfl, SZ, LZ⟩
    rintro σ H6 ⟨pl, kl, ml, z10, z11, rfl, S6, L6⟩
    refine ⟨_, rfl, _, rfl, _, rfl, (by show 3 ≤ sizeLine; decide), fun pa hpa => ?_⟩
    have s7 := same1 hpa (.lst [.ref pl, .ref pr, .ref pf])
    have S7 := S6.up s7
    have L7 := L6.step (but_of s7) S6.p
    have npq : pa ≠ q := fun z => by subst z; exact S6.p.some hpa
    exact k pa pl pr pf ⟨ml, mr', mf⟩ _ S7.b S7.p upd_same ⟨kl, L7.l, L7.lr⟩ ⟨kr, S7.r, S7.rr⟩ ⟨kf, S7.f, S7.fr⟩ (S6.b.free npq hpa) L7.ln S7.rn S7.fn L7.ne S7.ne (gv_new h1 h3 n1 n3 fk L7.lk S7.rk fo L7.lo S7.ro)) (fun _ _ _ _ _ _ us hl => match us, hl with | [_, _, _], _ => rfl)
end
end K7

set_option Elab.async false
set_option linter.all false
set_option maxRecDepth 100000
set_option maxHeartbeats 4000000
/-! The law: a work of what is given, one rope more, an entry. -/
namespace K7
open PySem PySem.Spec PyProof.Rows L2
def spBuilt (K : PySem.W.Frag) : Sp := fun vs H Q _ => ∃ (v : V) (g : Gv), vs = [v] ∧ GvAt H v g ∧ GvOk g ∧ ∀ v' H', Same H H' → WkN K H H' v' g → Q v' H'
def addR (m : List (Str × Rp)) (n : Str) (x : Rp) : List (Str × Rp) := if n ∈ keys m then m else m ++ [(n, x)]
def spAddRope : Sp := fun vs H Q _ => ∃ (a l r f p : Addr) (n : Str) (kr : List (Key × V)) (m : List (Str × Rp)) (ws : List Str), vs = [.ref a, .str n, .ref p] ∧ H a = some (.lst [.ref l, .ref r, .ref f]) ∧ H r = some (.dK kr) ∧ KvR dRp H kr m ∧ (keys m).Nodup ∧ m.length ≤ 50 ∧ H p = some (.tup (ws.map V.str)) ∧
  ∀ H' kr', But r H H' → H' r = some (.dK kr') → KvR dRp H' kr' (addR m n ((true, ws), (1, 3))) → Q .non H'
theorem putN_same {α : Type} {m : List (Str × α)} {n : Str} {x : α} (nd : (keys m).Nodup) (e : m.lookup n = some x) : putN m n x = m := by
  have hn : n ∈ keys m := look_iff.mp (by rw [e]; rfl)
  rw [putN_old hn]
  have : m.map (fun p => if p.1 = n then (p.1, x) else p) = m.map id := by
    refine List.map_congr_left fun p hp => ?_
    by_cases h : p.1 = n
    · rw [if_pos h]
      have h2 := mem_look nd hp
      rw [h, e] at h2
      have h3 : x = p.2 := Option.some.inj h2
      rw [h3]
      rfl
    · rw [if_neg h]
      rfl
  rw [this, List.map_id]
section
variable {P : Program} {w : World} {K : PySem.W.Frag} {mg : Str → Option Value} {base : Heap}
theorem cal_built (T : TX P K mg) : Cal P w K mg base CX0 7 "_law_built" (spBuilt K) := T.g_law_built.cal (ps := ["_law_given_here"]) (fun f fd F => by
  refine F.ok c_law_built (fun vs H Q E h => ?_) (fun cdv A outer s H vs Q E hr h => ?_)
  · obtain ⟨v, g, rfl, _⟩ := h
    rfl
  · obtain ⟨v, g, rfl, ⟨a, l, r, ff, rfl, ha, D1, D2, D3⟩, G, k⟩ := h
    refine ⟨_, pss_one (ps_ret (pe_work T hr (pa_cons (pe_ix ix_list (pv 0) pe_int (fun _ _ => rfl)) (pa_cons (pe_ix ix_list (pv 0) pe_int (fun _ _ => rfl)) pa_nil)) (pk_cons (pe_ix ix_list (pv 0) pe_int (fun _ _ => rfl)) pk_nil))), ?_⟩
    refine ⟨_, rfl, a, _, _, _, rfl, rfl, SqL.of ha, rfl, _, rfl, a, _, _, _, rfl, rfl, SqL.of ha, rfl, _, rfl, a, _, _, _, rfl, rfl, SqL.of ha, rfl, rfl, rfl, ?_⟩
    exact work_new (g := g) D1 D2 D3 G fun x H' s' _ W => k _ H' s' W) (fun _ _ _ _ _ _ us hl => match us, hl with | [_], _ => rfl)
theorem cal_add_rope (T : TX P K mg) : Cal P w K mg base CX0 1 "_law_add_rope" spAddRope := T.g_law_add_rope.cal (ps := ["_law_given_here", "_law_name", "_law_path_here"]) (fun f fd F => by
  refine F.ok c_law_add_rope (fun vs H Q E h => ?_) (fun cdv A outer s H vs Q E hr h => ?_)
  · obtain ⟨a, l, r, ff, p, n, kr, m, ws, rfl, _⟩ := h
    rfl
  · obtain ⟨a, l, r, ff, p, n, kr, m, ws, rfl, ha, hrr, ar, ndm, l50, hp, k⟩ := h
    have nd := c_law_add_rope.nd
    have hu := hu_of hr
    refine ⟨_, pss_cons (ps_set (i := 3) nd rfl (Or.inl rfl) (pe_ix ix_list (pv 0) pe_int (fun _ _ => rfl)))
      (pss_one (ps_dput hu (pv 3) (pv 1) (pe_ifExp (pt_cmp (pc_dnotin hu (pv 1) (pv 3))) (pe_tup (pa_cons (pv 2) (pa_cons (pe_tup (pa_cons pe_int (pa_cons pe_int pa_nil))) pa_nil))) (pe_dget hu (pv 3) (pv 1) (fun _ _ => rfl))) rfl)), ?_⟩
    have lkr : kr.length < sizeLine := small100 (by rw [ar.length]; omega)
    refine ⟨_, rfl, a, _, _, _, rfl, rfl, SqL.of ha, rfl, ?_⟩
    refine ⟨_, rfl, _, rfl, r, _, rfl, DGet.k (k := (Sum.inr n : Key)) hrr, _, rfl, ?_⟩
    by_cases hn : n ∈ keys m
    · obtain ⟨x, ex⟩ := look_some hn
      obtain ⟨v, ev, dv⟩ := ar.val ex
      rw [ev]
      refine iteF ?_
      have dg := DGet.k (k := (Sum.inr n : Key)) hrr
      rw [ev] at dg
      refine ⟨_, rfl, _, rfl, r, v, rfl, dg, _, rfl, _, rfl, r, _, rfl, DPut.k (k := (Sum.inr n : Key)) hrr lkr, ?_⟩
      have mz : Kd flatO H (upd H r (.dK (putK kr (Sum.inr n : Key) v))) := kd_upd hrr rfl _
      have := KvR.put (n := n) (ar.mv mz) (dv.mv mz)
      rw [putN_same ndm ex] at this
      exact k _ _ ((But.refl r H).put _) upd_same (by unfold addR; rw [if_pos hn]; exact this)
    · rw [ar.valN (look_none hn)]
      refine iteT ?_
      refine ⟨_, rfl, (by show 2 ≤ sizeLine; decide), fun t1 ht1 => ⟨(by show 2 ≤ sizeLine; decide), fun t2 ht2 => ?_⟩⟩
      have s1 := same1 ht1 (.tup [.int 1, .int 3])
      have s2 := same_new s1 ht2 (.tup [.ref p, .ref t1])
      refine ⟨_, rfl, _, rfl, r, _, rfl, DPut.k (k := (Sum.inr n : Key)) (s2 _ _ hrr) lkr, ?_⟩
      have mz : Kd flatO (upd (upd H t1 (.tup [.int 1, .int 3])) t2 (.tup [.ref p, .ref t1])) (upd (upd (upd H t1 (.tup [.int 1, .int 3])) t2 (.tup [.ref p, .ref t1])) r (.dK (putK kr (Sum.inr n : Key) (.ref t2)))) := kd_upd (s2 _ _ hrr) rfl _
      have d2 : Dt (upd (upd H t1 (.tup [.int 1, .int 3])) t2 (.tup [.ref p, .ref t1])) (.ref t2) (dRp ((true, ws), (1, 3))) := dRp_mk upd_same (dPath_mk (s2 _ _ hp)) (dFr_mk (q := (1, 3)) (same1 ht2 _ _ _ upd_same))
      have := KvR.put (n := n) ((ar.mv (kd_of s2)).mv mz) (d2.mv mz)
      rw [putN_new hn] at this
      exact k _ _ ((but_of s2).trans ((But.refl r _).put _)) upd_same (by unfold addR; rw [if_neg hn]; exact this)) (fun _ _ _ _ _ _ us hl => match us, hl with | [_, _, _], _ => rfl)
end
/-! ### an entry -/
def EnAll (en : En) : Prop := EnOk en ∧ EnFine en ∧ NameB en.us = true
def dUndo (u n : Str) : PyData := .tuple [.str u, .str n, .str "undo"]
def spEntry : Sp := fun vs H Q _ => ∃ (q d : Addr) (s : S2), vs = [.ref q, .ref d] ∧ Pl H q ∧ StA H d s ∧ S2Ok s ∧ (∀ v H' en, But q H H' → Dt H' v (dEn en) → EnAll en → Q v H') ∧ ∀ v H' u n, But q H H' → Dt H' v (dUndo u n) → NameB u = true → Q v H'
theorem dtl_atI {H : Hp} {ds : List PyData} {vs : List V} (h : DtL H vs ds) {i : Int} (h0 : 0 ≤ i) (h1 : i < ds.length) : ∃ v d, atI vs i = some v ∧ Dt H v d ∧ d ∈ ds := by
  obtain ⟨j, rfl⟩ := Int.eq_ofNat_of_zero_le h0
  have hj : j < ds.length := by omega
  obtain ⟨v, ev, dv⟩ := h.get (i := j) (d := ds[j]) (List.getElem?_eq_getElem hj)
  exact ⟨v, ds[j], atI_nat ev, dv, List.getElem_mem hj⟩
theorem strs_pick {ns : List Str} {i : Int} (h0 : 0 ≤ i) (h1 : i < ns.length) : ∃ n, n ∈ ns ∧ atI (ns.map V.str) i = some (.str n) := strs_atI h0 h1
def NMS : List Str := ["r", "s", "p", "q", "t", "y", "z", "pq", "P", ""]
def NMT : List Str := ["p", "q", "p", "q", "p", "q", "r", "pq", "P", "p"]
def okNm (z : Str) : Bool := (NameB z || (decide (z = "P") || decide (z = ""))) && (decide (z.length ≤ 100) && PyData.strOk z)
theorem nms_ok : (∀ z ∈ NMS, okNm z = true) ∧ ∀ z ∈ NMT, okNm z = true := by decide +kernel
theorem okNm_of {z : Str} (h : okNm z = true) : (NameB z = true ∨ z = "P" ∨ z = "") ∧ z.length ≤ 100 ∧ PyData.strOk z = true := by
  unfold okNm at h
  simp only [Bool.and_eq_true, Bool.or_eq_true, decide_eq_true_eq] at h
  exact h
theorem sh_en_load {u n z : Str} {q : Fr} (hu : PyData.strOk u = true) (hn : PyData.strOk n = true) (hz : PyData.strOk z = true) : Sh 5 (dEn (.load u n z q)) := Sh.mono (m := 2) (Sh.tup fun d hd => by
  simp only [List.mem_cons, List.not_mem_nil, or_false] at hd
  rcases hd with rfl | rfl | rfl | rfl | rfl
  · exact .str hu
  · exact .str hn
  · exact .str (by decide +kernel)
  · exact .str hz
  · exact .fr q) (by decide)
theorem sh_en_drop {u n z : Str} (hu : PyData.strOk u = true) (hn : PyData.strOk n = true) (hz : PyData.strOk z = true) : Sh 5 (dEn (.drop u n z)) := Sh.mono (m := 2) (Sh.tup fun d hd => by
  simp only [List.mem_cons, List.not_mem_nil, or_false] at hd
  rcases hd with rfl | rfl | rfl | rfl
  · exact .str hu
  · exact .str hn
  · exact .str (by decide +kernel)
  · exact .str hz) (by decide)
theorem sh_en_rope {u n z : Str} {b : Bool} {ws : List Str} {q : Fr} (hu : PyData.strOk u = true) (hn : PyData.strOk n = true) (hz : PyData.strOk z = true) (hw : ∀ x ∈ ws, PyData.strOk x = true) : Sh 5 (dEn (.rope u n z b ws q)) := Sh.mono (m := 2) (Sh.tup fun d hd => by
  simp only [List.mem_cons, List.not_mem_nil, or_false] at hd
  rcases hd with rfl | rfl | rfl | rfl | rfl | rfl
  · exact .str hu
  · exact .str hn
  · exact .str (by decide +kernel)
  · exact .str hz
  · exact .path hw
  · exact .fr q) (by decide)
/-- a path that may stand in an entry -/
def PathE (b : Bool) (ws : List Str) : Prop := PathFine b ws ∧ ws.length ≤ 100 ∧ ∀ x ∈ ws, PyData.strOk x = true
theorem pathE_pth {ns ws : List Str} (h : Pth ns ws) (h3 : 3 ≤ ws.length) (h9 : ws.length ≤ 9) (ok : ∀ x ∈ ns, PyData.strOk x = true) : PathE true ws := by
  have hp := pth_path h h3 h9
  refine ⟨.inr (.inr ?_), by omega, path_ok ok hp⟩
  unfold PathB at hp
  simp only [Bool.and_eq_true, decide_eq_true_eq] at hp
  exact ⟨hp.2.1, hp.2.2.2.1, hp.2.2.2.2.2⟩
theorem pathE_1 : PathE true ["zz", "up", "a"] := ⟨.inr (.inr ⟨by decide, by decide, by decide +kernel⟩), by decide, by decide +kernel⟩
theorem pathE_2 : PathE false ["a", "up", "P"] := ⟨.inl rfl, by decide, by decide +kernel⟩
theorem pathE_3 : PathE true ["a"] := ⟨.inr (.inl (by decide)), by decide, by decide +kernel⟩
end K7

set_option Elab.async false
set_option linter.all false
set_option maxRecDepth 100000
set_option maxHeartbeats 4000000
namespace K7
open PySem PySem.Spec PyProof.Rows L2
section
variable {P : Program} {w : World} {K : PySem.W.Frag} {mg : Str → Option Value} {base : Heap}
theorem cal_entry (T : TX P K mg) : Cal P w K mg base CX0 4 "_law_entry" spEntry := T.g_law_entry.cal (ps := ["_law_pool_here", "_law_states"]) (fun f fd F => by
  refine F.ok c_law_entry (fun vs H Q E h => ?_) (fun cdv A outer s H vs Q E hr h => ?_)
  · obtain ⟨q, d, st, rfl, _⟩ := h
    rfl
  · obtain ⟨q, d, st, rfl, hq, W, O, k1, k2⟩ := h
    have nd := c_law_entry.nd
    have hu := hu_of hr
    have hr1 : Room 1 _ := hr.mono (by decide)
    have hr2 : Room 2 _ := hr.mono (by decide)
    have DR := cal_draw (P := P) (w := w) (base := base) T
    refine ⟨_, pss_cut (ps_par (i := 2) (j := 3) (by rfl) nd rfl rfl (by decide) rfl rfl (pa_cons (pe_ix ix_list (pe_lst (pa_cons pe_str (pa_cons pe_str pa_nil))) (pe_cal DR hr1 pass0 (pa_cons (pv 0) (pa_cons pe_int pa_nil))) (fun _ _ => rfl))
        (pa_cons (pe_ix ix_list (pe_lst (pa_cons pe_str (pa_cons pe_str pa_nil))) (pe_cal DR hr1 pass0 (pa_cons (pv 0) (pa_cons pe_int pa_nil))) (fun _ _ => rfl)) pa_nil)) (by rfl))
      (pss_cons (ps_set (i := 4) nd rfl (Or.inl rfl) (pe_dget hu (pv 1) (pv 3) (fun _ _ => rfl)))
      (pss_cons (ps_set (i := 5) nd rfl (Or.inl rfl) (pe_cal DR hr1 pass0 (pa_cons (pv 0) (pa_cons pe_int pa_nil))))
      (pss_cons (ps_if (pt_cmpR op_eq (pv 5) pe_int (nomark _))
        (pss_cut (ps_set (i := 6) nd rfl (Or.inl rfl) (pe_ix ix_list (pe_op op_cat (pe_callTy (call_listD rfl) (by rfl) T.f_list (by decide +kernel) (pa_cons (pe_ix ix_list (pv 4) pe_int (fun _ _ => rfl)) pa_nil)) (pe_lst (pa_cons pe_str pa_nil)))
            (pe_cal DR hr1 pass0 (pa_cons (pv 0) (pa_cons (pe_op op_add (pe_callB call_lenD (by rfl) T.f_len PySem.boot_len (pa_cons (pe_ix ix_list (pv 4) pe_int (fun _ _ => rfl)) pa_nil)) pe_int) pa_nil))) (fun _ _ => rfl)))
        (pss_one (ps_ret (pe_tup (pa_cons (pv 2) (pa_cons (pv 3) (pa_cons pe_str (pa_cons (pv 6) (pa_cons (pe_ix ix_list (pe_lst (pa_cons (pe_cal (cal_number T) hr pass0 (pa_cons (pv 0) pa_nil)) (pa_cons (pe_cal (cal_number T) hr pass0 (pa_cons (pv 0) pa_nil)) (pa_cons (pe_tup (pa_cons (pe_un un_neg pe_int) (pa_cons pe_int pa_nil))) (pa_cons (pe_tup (pa_cons pe_int (pa_cons pe_int pa_nil))) pa_nil)))))
            (pe_cal DR hr1 pass0 (pa_cons (pv 0) (pa_cons pe_int pa_nil))) (fun _ _ => rfl)) pa_nil))))))))) pss_nil)
      (pss_cons (ps_if (pt_cmpR op_eq (pv 5) pe_int (nomark _))
        (pss_cons (ps_set (i := 7) nd rfl (Or.inl rfl) (pe_lst (pa_cons pe_str (pa_cons pe_str (pa_cons pe_str (pa_cons pe_str (pa_cons pe_str (pa_cons pe_str (pa_cons pe_str (pa_cons pe_str (pa_cons pe_str (pa_cons pe_str pa_nil))))))))))))
        (pss_cut (ps_if (pt_cmpR op_ge (pe_callB call_lenD (by rfl) T.f_len PySem.boot_len (pa_cons (pe_ix ix_list (pv 4) pe_int (fun _ _ => rfl)) pa_nil)) pe_int (nomark _)) (pss_one (ps_set (i := 7) nd rfl (Or.inl rfl) (pe_lst (pa_cons pe_str (pa_cons pe_str (pa_cons pe_str (pa_cons pe_str (pa_cons pe_str (pa_cons pe_str (pa_cons pe_str (pa_cons pe_str (pa_cons pe_str (pa_cons pe_str pa_nil))))))))))))) pss_nil)
        (pss_cons (ps_set (i := 8) nd rfl (Or.inl rfl) (pe_op op_cat (pe_callTy (call_listD rfl) (by rfl) T.f_list (by decide +kernel) (pa_cons (pe_ix ix_list (pv 4) pe_int (fun _ _ => rfl)) pa_nil)) (pe_callTy (call_listD rfl) (by rfl) T.f_list (by decide +kernel) (pa_cons (pe_ix ix_list (pv 4) pe_int (fun _ _ => rfl)) pa_nil))))
        (pss_cut (ps_set (i := 9) nd rfl (Or.inl rfl) (pe_lst (pa_cons (pe_cal (cal_path T) hr2 pass0 (pa_cons (pv 0) (pa_cons (pv 8) pa_nil))) (pa_cons (pe_cal (cal_path T) hr2 pass0 (pa_cons (pv 0) (pa_cons (pv 8) pa_nil))) (pa_cons (pe_tup (pa_cons pe_str (pa_cons pe_str (pa_cons pe_str pa_nil)))) (pa_cons (pe_lst (pa_cons pe_str (pa_cons pe_str (pa_cons pe_str pa_nil)))) (pa_cons (pe_tup (pa_cons pe_str pa_nil)) pa_nil)))))))
        (pss_cut (ps_set (i := 9) nd rfl (Or.inl rfl) (pe_lst (pa_cons (pe_ix ix_list (pv 9) pe_int (fun _ _ => rfl)) (pa_cons (pe_ix ix_list (pv 9) pe_int (fun _ _ => rfl)) (pa_cons (pe_ix ix_list (pv 9) pe_int (fun _ _ => rfl)) (pa_cons (pe_ix ix_list (pv 9) pe_int (fun _ _ => rfl)) (pa_cons (pe_ix ix_list (pv 9) (pe_op op_add pe_int (pe_cal DR hr1 pass0 (pa_cons (pv 0) (pa_cons pe_int pa_nil)))) (fun _ _ => rfl)) pa_nil)))))))
        (pss_cut (ps_set (i := 10) nd rfl (Or.inl rfl) (pe_ix ix_list (pe_lst (pa_cons (pe_tup (pa_cons pe_int (pa_cons pe_int pa_nil))) (pa_cons (pe_tup (pa_cons (pe_un un_neg pe_int) (pa_cons pe_int pa_nil))) (pa_cons (pe_tup (pa_cons pe_int (pa_cons pe_int pa_nil))) (pa_cons (pe_tup (pa_cons pe_int (pa_cons pe_int pa_nil))) (pa_cons (pe_tup (pa_cons pe_int (pa_cons pe_int pa_nil))) (pa_cons (pe_tup (pa_cons pe_int (pa_cons pe_int pa_nil))) pa_nil))))))) (pe_cal DR hr1 pass0 (pa_cons (pv 0) (pa_cons pe_int pa_nil))) (fun _ _ => rfl)))
        (pss_one (ps_ret (pe_tup (pa_cons (pv 2) (pa_cons (pv 3) (pa_cons pe_str (pa_cons (pe_ix ix_list (pv 7) (pe_cal DR hr1 pass0 (pa_cons (pv 0) (pa_cons pe_int pa_nil))) (fun _ _ => rfl)) (pa_cons (pe_ix ix_list (pv 9) (pe_cal DR hr1 pass0 (pa_cons (pv 0) (pa_cons pe_int pa_nil))) (fun _ _ => rfl)) (pa_cons (pv 10) pa_nil))))))))))))))) pss_nil)
      (pss_cons (ps_if (pt_cmpR op_eq (pv 5) pe_int (nomark _))
        (pss_one (ps_ret (pe_tup (pa_cons (pv 2) (pa_cons (pv 3) (pa_cons pe_str (pa_cons (pe_ix ix_list (pe_op op_cat (pe_callTy (call_listD rfl) (by rfl) T.f_list (by decide +kernel) (pa_cons (pe_ix ix_list (pv 4) pe_int (fun _ _ => rfl)) pa_nil)) (pe_lst (pa_cons pe_str pa_nil)))
            (pe_cal DR hr1 pass0 (pa_cons (pv 0) (pa_cons (pe_op op_add (pe_callB call_lenD (by rfl) T.f_len PySem.boot_len (pa_cons (pe_ix ix_list (pv 4) pe_int (fun _ _ => rfl)) pa_nil)) pe_int) pa_nil))) (fun _ _ => rfl)) pa_nil))))))) pss_nil)
      (pss_one (ps_ret (pe_tup (pa_cons (pv 2) (pa_cons (pv 3) (pa_cons pe_str pa_nil))))))))))), ?_⟩
    have mvp : ∀ {H1 H2 : Hp}, But q H1 H2 → Pl H1 q → ∀ {l : Addr} {us : List Str}, H1 l = some (.lst (us.map V.str)) → H2 l = some (.lst (us.map V.str)) := fun t p _ us e => kd_but t p.flat _ _ e (strs_flat us)
    -- user, name
    refine ⟨fun σ H1 => ∃ u n, σ = [some (.ref q), some (.ref d), some (.str u), some (.str n), none, none, none, none, none, none, none] ∧ But q H H1 ∧ Pl H1 q ∧ u ∈ (["ann", "bo"] : List Str) ∧ n ∈ (["one", "two"] : List Str), ?_, ?_⟩
    · refine ⟨(by show 2 ≤ sizeLine; decide), fun l1 hl1 => ?_⟩
      have s1 := same1 hl1 (.lst [.str "ann", .str "bo"])
      refine ⟨_, rfl, q, 2, rfl, hq.up s1, by decide, by decide, fun r1 H1 a1 b1 t1 p1 => ?_⟩
      have e1 := mvp (us := ["ann", "bo"]) t1 (hq.up s1) (l := l1) upd_same
      obtain ⟨u, hu1, eu⟩ := strs_pick (ns := ["ann", "bo"]) a1 b1
      refine ⟨l1, _, _, _, rfl, rfl, SqL.of e1, eu, (by show 2 ≤ sizeLine; decide), fun l2 hl2 => ?_⟩
      have s2 := same1 hl2 (.lst [.str "one", .str "two"])
      refine ⟨_, rfl, q, 2, rfl, p1.up s2, by decide, by decide, fun r2 H2 a2 b2 t2 p2 => ?_⟩
      have e2 := mvp (us := ["one", "two"]) t2 (p1.up s2) (l := l2) upd_same
      obtain ⟨n, hn1, en⟩ := strs_pick (ns := ["one", "two"]) a2 b2
      exact ⟨l2, _, _, _, rfl, rfl, SqL.of e2, en, _, _, rfl, u, n, rfl, ((but_of s1).trans t1).trans ((but_of s2).trans t2), p2, hu1, hn1⟩
    rintro σ H1 ⟨u, n, rfl, t1, p1, hu1, hn1⟩
    have hn : n = "one" ∨ n = "two" := by simpa using hn1
    have un : NameB u = true := by
      simp only [List.mem_cons, List.not_mem_nil, or_false] at hu1
      rcases hu1 with rfl | rfl <;> decide +kernel
    have so_u : PyData.strOk u = true := strOk_name un
    have so_n : PyData.strOk n = true := by rcases hn with rfl | rfl <;> decide +kernel
    have W1 : StA H1 d st := W.mv (kd_but t1 hq.mid)
    obtain ⟨vg, dg, WG⟩ := W1.get hn
    have G := O.get n
    generalize getG st n = g at WG G
    obtain ⟨gv, l, r, ff, rfl, hg, ⟨kl, hl, al⟩, ⟨kr, hrr, ar⟩, ⟨kf, hf, af⟩⟩ := WG
    refine ⟨_, rfl, _, rfl, d, .ref gv, rfl, dg, ?_⟩
    refine ⟨_, rfl, q, 4, rfl, p1, by decide, by decide, fun rc H2 ac bc t2 p2 => ?_⟩
    have k12 : Kd midO H1 H2 := kd_but t2 p1.mid
    have bt2 : But q H H2 := t1.trans t2
    replace hg := k12 _ _ hg rfl
    replace hl := k12 _ _ hl rfl
    replace hrr := k12 _ _ hrr rfl
    replace hf := k12 _ _ hf rfl
    have kyl : kl.map (fun kv => kV kv.1) = (keys g.loads).map V.str := keys_kV al.keys
    have kyr : kr.map (fun kv => kV kv.1) = (keys g.ropes).map V.str := keys_kV ar.keys
    have kyf : kf.map (fun kv => kV kv.1) = (keys g.fixed).map V.str := keys_kV af.keys
    have lkl : kl.length = g.loads.length := al.length
    have lkr : kr.length = g.ropes.length := ar.length
    have gl8 := G.l8
    have gr10 := G.r10
    have gf8 := G.f8
    have kll : (keys g.loads).length = g.loads.length := List.length_map ..
    have klr : (keys g.ropes).length = g.ropes.length := List.length_map ..
    have klf : (keys g.fixed).length = g.fixed.length := List.length_map ..
    clear k12 t1 t2 p1 W1 dg al ar af
    refine ⟨_, rfl, rfl, _, rfl, ite2 (fun _ => ?_) (fun _ => ?_)⟩
    · -- a load
      refine ⟨fun σ H3 => ∃ z, σ = [some (.ref q), some (.ref d), some (.str u), some (.str n), some (.ref gv), some (.int rc), some (.str z), none, none, none, none] ∧ But q H H3 ∧ Pl H3 q ∧ z ∈ keys g.loads ++ [("zz" : Str)], ?_, ?_⟩
      · refine ⟨_, rfl, gv, _, _, _, rfl, rfl, SqL.of hg, rfl, l, kl, rfl, .inl hl, fun a1 ha1 => ?_⟩
        rw [kyl]
        have s1 := same1 ha1 (.lst ((keys g.loads).map V.str))
        refine ⟨(by show 1 ≤ sizeLine; decide), fun a2 ha2 => ?_⟩
        have s2 := same1 ha2 (.lst [.str "zz"])
        refine ⟨a1, a2, _, _, rfl, rfl, s2 _ _ upd_same, upd_same, (by rw [List.length_map]; show _ + 1 ≤ sizeLine; exact Nat.le_of_lt (small1000 (by omega))), fun a3 ha3 => ?_⟩
        have s3 := same_new (s1.trans s2) ha3 (.lst ((keys g.loads).map V.str ++ [.str "zz"]))
        refine ⟨_, rfl, _, rfl, gv, _, _, _, rfl, rfl, SqL.of (s3 _ _ hg), rfl, l, kl, rfl, s3 _ _ hl, _, _, rfl, rfl, q, _, rfl, p2.up s3, by omega, by omega, fun r3 H3 a3' b3 t3 p3 => ?_⟩
        have e3 := mvp (us := keys g.loads ++ [("zz" : Str)]) t3 (p2.up s3) (l := a3) (by rw [upd_same, List.map_append]; rfl)
        obtain ⟨z, hz, ez⟩ := strs_pick (ns := keys g.loads ++ [("zz" : Str)]) a3' (by rw [List.length_append, kll]; show r3 < ((g.loads.length + 1 : Nat) : Int); omega)
        exact ⟨a3, _, _, _, rfl, rfl, SqL.of e3, ez, z, rfl, bt2.trans ((but_of s3).trans t3), p3, hz⟩
      rintro σ H3 ⟨z, rfl, t3, p3, hz⟩
      have oz : PyData.strOk z = true ∧ z.length ≤ 100 := by
        rcases List.mem_append.mp hz with h | h
        · obtain ⟨pr, hpr, rfl⟩ := List.mem_map.mp h
          have := (G.okl pr hpr).1
          exact ⟨strOk_name this, Nat.le_trans (WordB.len this) (by decide)⟩
        · rw [List.mem_singleton.mp h]
          exact ⟨by decide +kernel, by decide +kernel⟩
      refine ⟨_, rfl, _, rfl, _, rfl, _, rfl, q, rfl, p3, fun v1 f1 H4 t4 p4 d4 o4 _ => ⟨_, rfl, q, rfl, p4, fun v2 f2 H5 t5 p5 d5 o5 _ => ?_⟩⟩
      refine ⟨_, rfl, (by show 2 ≤ sizeLine; decide), fun x1 hx1 => ⟨(by show 2 ≤ sizeLine; decide), fun x2 hx2 => ⟨(by show 4 ≤ sizeLine; decide), fun x3 hx3 => ?_⟩⟩⟩
      have s1 := same1 hx1 (.tup [.int (-1), .int 2])
      have s2 := same1 hx2 (.tup [.int 2, .int 4])
      have s3 := same1 hx3 (.lst [v1, v2, .ref x1, .ref x2])
      have sA := (s1.trans s2).trans s3
      have dl : DtL _ [v1, v2, .ref x1, .ref x2] [dFr f1, dFr f2, dFr (-1, 2), dFr (2, 4)] := .cons ((d4.mv (kd_but t5 p4.flat)).up sA) (.cons (d5.up sA) (.cons (dFr_mk (q := (-1, 2)) (s3 _ _ (s2 _ _ upd_same))) (.cons (dFr_mk (q := (2, 4)) (s3 _ _ upd_same)) .nil)))
      obtain ⟨av1, ev1, _⟩ := dFr_inv d4
      have fl : flatO (.lst [v1, v2, .ref x1, .ref x2]) = true := by rw [ev1]; rfl
      refine ⟨_, rfl, q, 4, rfl, p5.up sA, by decide, by decide, fun r6 H6 a6 b6 t6 p6 => ?_⟩
      have k6 : Kd flatO _ H6 := kd_but t6 (p5.up sA).flat
      obtain ⟨v, dd, ev, dv, hm⟩ := dtl_atI (dl.mv k6) a6 b6
      refine ⟨x3, _, _, _, rfl, rfl, SqL.of (k6 _ _ upd_same fl), ev, (by show 5 ≤ sizeLine; decide), fun t ht => ?_⟩
      have s7 := same1 ht (.tup [.str u, .str n, .str "load", .str z, v])
      obtain ⟨fq, rfl, hfq⟩ : ∃ fq : Fr, dd = dFr fq ∧ (LdOk fq ∨ fq = (-1, 2) ∨ fq = (2, 4)) := by
        simp only [List.mem_cons, List.not_mem_nil, or_false] at hm
        rcases hm with rfl | rfl | rfl | rfl
        · exact ⟨f1, rfl, .inl o4⟩
        · exact ⟨f2, rfl, .inl o5⟩
        · exact ⟨(-1, 2), rfl, .inr (.inl rfl)⟩
        · exact ⟨(2, 4), rfl, .inr (.inr rfl)⟩
      refine k1 _ _ (.load u n z fq) ((((t3.trans t4).trans t5).trans ((but_of sA).trans t6)).new ht _) (.tup upd_same (.cons (.str _) (.cons (.str _) (.cons (.str _) (.cons (.str _) (.cons (dv.up s7) .nil)))))) ⟨⟨hn, oz.2, sh_en_load so_u so_n oz.1⟩, hfq, un⟩
    refine ⟨_, rfl, rfl, _, rfl, ite2 (fun _ => ?_) (fun _ => ?_)⟩
    · -- a rope
      refine ⟨(by show 10 ≤ sizeLine; decide), fun y1 hy1 => ?_⟩
      have s1 := same1 hy1 (.lst (NMS.map V.str))
      refine ⟨fun σ H3 => ∃ (y : Addr) (nms : List Str), σ = [some (.ref q), some (.ref d), some (.str u), some (.str n), some (.ref gv), some (.int rc), none, some (.ref y), none, none, none] ∧ Same H2 H3 ∧ H3 y = some (.lst (nms.map V.str)) ∧ nms.length = 10 ∧ ∀ z ∈ nms, okNm z = true, ?_, ?_⟩
      · refine ⟨_, rfl, gv, _, _, _, rfl, rfl, SqL.of (s1 _ _ hg), rfl, r, kr, rfl, s1 _ _ hrr, _, _, rfl, rfl, _, rfl, ite2 (fun _ => ?_) (fun _ => ?_)⟩
        · refine ⟨(by show 10 ≤ sizeLine; decide), fun y2 hy2 => ?_⟩
          exact ⟨y2, NMT, rfl, same_new s1 hy2 _, upd_same, rfl, nms_ok.2⟩
        · exact ⟨y1, NMS, rfl, s1, upd_same, rfl, nms_ok.1⟩
      rintro σ H3 ⟨y, nms, rfl, s3, ey, ly, oky⟩
      clear s1 hy1
      -- points
      refine ⟨_, rfl, gv, _, _, _, rfl, rfl, SqL.of (s3 _ _ hg), rfl, l, kl, rfl, .inl (s3 _ _ hl), fun a1 ha1 => ?_⟩
      rw [kyl]
      have s4 := s3.trans (same1 ha1 (.lst ((keys g.loads).map V.str)))
      have s4' := same1 ha1 (.lst ((keys g.loads).map V.str))
      refine ⟨_, rfl, gv, _, _, _, rfl, rfl, SqL.of (s4 _ _ hg), rfl, ff, kf, rfl, .inl (s4 _ _ hf), fun a2 ha2 => ?_⟩
      rw [kyf]
      have s5 := same1 ha2 (.lst ((keys g.fixed).map V.str))
      refine ⟨a1, a2, _, _, rfl, rfl, s5 _ _ upd_same, upd_same, (by rw [List.length_map, List.length_map]; exact Nat.le_of_lt (small1000 (by omega))), fun a3 ha3 => ?_⟩
      have s6 := same_new (s4'.trans s5) ha3 (.lst ((keys g.loads).map V.str ++ (keys g.fixed).map V.str))
      have eP : (upd (upd (upd H3 a1 (.lst ((keys g.loads).map V.str))) a2 (.lst ((keys g.fixed).map V.str))) a3 (.lst ((keys g.loads).map V.str ++ (keys g.fixed).map V.str))) a3 = some (.lst ((pts g).map V.str)) := by
        rw [upd_same]
        unfold pts
        rw [List.map_append]
      have ey6 := s6 _ _ ey
      have sB := s3.trans s6
      generalize upd (upd (upd H3 a1 (.lst ((keys g.loads).map V.str))) a2 (.lst ((keys g.fixed).map V.str))) a3 (.lst ((keys g.loads).map V.str ++ (keys g.fixed).map V.str)) = HB at eP ey6 sB
      clear s3 s4 s4' s5 s6 ha1 ha2 ha3 ey
      have pB := p2.up sB
      have tB : But q H HB := bt2.trans (but_of sB)
      have lp1 : 1 ≤ (pts g).length := by
        unfold pts
        rw [List.length_append, kll]
        have := G.l1
        omega
      have lp20 : (pts g).length ≤ 20 := by
        unfold pts
        rw [List.length_append, kll, klf]
        omega
      have lp8 : ∀ x ∈ pts g, x.length ≤ 8 := fun x hx => by
        unfold pts at hx
        rcases List.mem_append.mp hx with h | h
        · obtain ⟨pr, hpr, rfl⟩ := List.mem_map.mp h
          exact WordB.len (G.okl pr hpr).1
        · obtain ⟨pr, hpr, rfl⟩ := List.mem_map.mp h
          exact WordB.len (G.okf pr hpr).1
      have okp : ∀ x ∈ pts g, PyData.strOk x = true := fun x hx => pts_ok G hx
      -- paths
      refine ⟨fun σ H4 => ∃ (pa : Addr) (xs : List V) (bs : List (Bool × List Str)), σ = [some (.ref q), some (.ref d), some (.str u), some (.str n), some (.ref gv), some (.int rc), none, some (.ref y), some (.ref a3), some (.ref pa), none] ∧ But q H H4 ∧ Pl H4 q ∧ H4 y = some (.lst (nms.map V.str)) ∧ H4 pa = some (.lst xs) ∧ flatO (.lst xs) = true ∧ DtL H4 xs (bs.map fun b => dPath b.1 b.2) ∧ bs.length = 5 ∧ ∀ b ∈ bs, PathE b.1 b.2, ?_, ?_⟩
      · refine ⟨_, rfl, _, rfl, q, a3, pts g, rfl, pB, eP, lp1, lp20, lp8, fun w1 ws1 H4 t4 p4 e4 h4 l3 l9 => ?_⟩
        have eP4 := mvp t4 pB eP
        have ey4 := mvp t4 pB ey6
        refine ⟨_, rfl, _, rfl, q, a3, pts g, rfl, p4, eP4, lp1, lp20, lp8, fun w2 ws2 H5 t5 p5 e5 h5 m3 m9 => ?_⟩
        have ey5 := mvp t5 p4 ey4
        have e4' : H5 w1 = some (.tup (ws1.map V.str)) := kd_but t5 p4.flat _ _ e4 rfl
        refine ⟨(by show 3 ≤ sizeLine; decide), fun w3 hw3 => ⟨(by show 3 ≤ sizeLine; decide), fun w4 hw4 => ⟨(by show 1 ≤ sizeLine; decide), fun w5 hw5 => ⟨(by show 5 ≤ sizeLine; decide), fun pa hpa => ?_⟩⟩⟩⟩
        have s3 := same1 hw3 (.tup [.str "zz", .str "up", .str "a"])
        have s4 := same1 hw4 (.lst [.str "a", .str "up", .str "P"])
        have s5 := same1 hw5 (.tup [.str "a"])
        have s6 := same1 hpa (.lst [.ref w1, .ref w2, .ref w3, .ref w4, .ref w5])
        have sA := ((s3.trans s4).trans s5).trans s6
        refine ⟨pa, [.ref w1, .ref w2, .ref w3, .ref w4, .ref w5], [(true, ws1), (true, ws2), (true, ["zz", "up", "a"]), (false, ["a", "up", "P"]), (true, ["a"])], rfl, (tB.trans t4).trans (t5.trans (but_of sA)), p5.up sA, sA _ _ ey5, upd_same, rfl, ?_, rfl, ?_⟩
        · refine .cons (dPath_mk (sA _ _ e4')) (.cons (dPath_mk (sA _ _ e5)) (.cons (dPath_mk (ws := ["zz", "up", "a"]) (s6 _ _ (s5 _ _ (s4 _ _ upd_same)))) (.cons (.lst (xs := [.str "a", .str "up", .str "P"]) (s6 _ _ (s5 _ _ upd_same)) rfl (dtl_strs ["a", "up", "P"])) (.cons (dPath_mk (ws := ["a"]) (s6 _ _ upd_same)) .nil))))
        · intro b hb
          simp only [List.mem_cons, List.not_mem_nil, or_false] at hb
          rcases hb with rfl | rfl | rfl | rfl | rfl
          · exact pathE_pth h4 l3 l9 okp
          · exact pathE_pth h5 m3 m9 okp
          · exact pathE_1
          · exact pathE_2
          · exact pathE_3
      rintro σ H4 ⟨pa, xs, bs, rfl, t4, p4, ey4, ea4, fl4, dl4, lb, okb⟩
      have pick : ∀ {i : Int}, 0 ≤ i → i < 5 → ∀ {Hx : Hp}, Kd flatO H4 Hx → ∃ v b, atI xs i = some v ∧ Dt Hx v (dPath b.1 b.2) ∧ b ∈ bs := fun h0 h5 Hx kx => by
        obtain ⟨v, dd, ev, dv, hm⟩ := dtl_atI (dl4.mv kx) h0 (by rw [List.length_map, lb]; exact h5)
        obtain ⟨b, hb, rfl⟩ := List.mem_map.mp hm
        exact ⟨v, b, ev, dv, hb⟩
      refine ⟨fun σ H5 => ∃ (pa : Addr) (xs : List V) (bs : List (Bool × List Str)), σ = [some (.ref q), some (.ref d), some (.str u), some (.str n), some (.ref gv), some (.int rc), none, some (.ref y), some (.ref a3), some (.ref pa), none] ∧ But q H H5 ∧ Pl H5 q ∧ H5 y = some (.lst (nms.map V.str)) ∧ H5 pa = some (.lst xs) ∧ flatO (.lst xs) = true ∧ DtL H5 xs (bs.map fun b => dPath b.1 b.2) ∧ bs.length = 5 ∧ ∀ b ∈ bs, PathE b.1 b.2, ?_, ?_⟩
      · obtain ⟨w1, b1, e1, d1, m1⟩ := pick (i := 0) (by decide) (by decide) (Kd.refl H4)
        obtain ⟨w4, b4, e4, d4, m4⟩ := pick (i := 1) (by decide) (by decide) (Kd.refl H4)
        refine ⟨_, rfl, pa, xs, _, w1, rfl, rfl, SqL.of ea4, e1, _, rfl, pa, xs, _, w1, rfl, rfl, SqL.of ea4, e1, _, rfl, pa, xs, _, w1, rfl, rfl, SqL.of ea4, e1, _, rfl, pa, xs, _, w4, rfl, rfl, SqL.of ea4, e4, ?_⟩
        refine ⟨_, rfl, _, rfl, q, 3, rfl, p4, by decide, by decide, fun r5 H5 a5 b5 t5 p5 => ?_⟩
        have k5 : Kd flatO H4 H5 := kd_but t5 p4.flat
        obtain ⟨w5, b5', e5, d5, m5⟩ := pick (i := 2 + r5) (by omega) (by omega) k5
        refine ⟨_, _, rfl, rfl, pa, xs, _, w5, rfl, rfl, SqL.of (k5 _ _ ea4 fl4), e5, (by show 5 ≤ sizeLine; decide), fun pb hpb => ?_⟩
        have s6 := same1 hpb (.lst [w1, w1, w1, w4, w5])
        obtain ⟨aw1, ew1, _⟩ := dPath_inv d1
        refine ⟨pb, [w1, w1, w1, w4, w5], [b1, b1, b1, b4, b5'], rfl, (t4.trans t5).new hpb _, p5.up s6, s6 _ _ (mvp t5 p4 ey4), upd_same, by rw [ew1]; rfl, ?_, rfl, ?_⟩
        · have f1 := (d1.mv k5).up s6
          exact .cons f1 (.cons f1 (.cons f1 (.cons ((d4.mv k5).up s6) (.cons (d5.up s6) .nil))))
        · intro b hb
          simp only [List.mem_cons, List.not_mem_nil, or_false] at hb
          rcases hb with rfl | rfl | rfl | rfl | rfl
          · exact okb _ m1
          · exact okb _ m1
          · exact okb _ m1
          · exact okb _ m4
          · exact okb _ m5
      clear pick
      rintro σ H5 ⟨pb, xs5, bs5, rfl, t5, p5, ey5, ea5, fl5, dl5, lb5, okb5⟩
      -- the length
      refine ⟨fun σ H6 => ∃ v fq, σ = [some (.ref q), some (.ref d), some (.str u), some (.str n), some (.ref gv), some (.int rc), none, some (.ref y), some (.ref a3), some (.ref pb), some v] ∧ But q H5 H6 ∧ Pl H6 q ∧ Dt H6 v (dFr fq) ∧ (FrOk fq ∨ fq = (1, 0)), ?_, ?_⟩
      · refine ⟨(by show 2 ≤ sizeLine; decide), fun x1 h1 => ⟨_, rfl, (by show 2 ≤ sizeLine; decide), fun x2 h2 => ⟨(by show 2 ≤ sizeLine; decide), fun x3 h3 => ⟨(by show 2 ≤ sizeLine; decide), fun x4 h4 => ⟨(by show 2 ≤ sizeLine; decide), fun x5 h5 => ⟨(by show 2 ≤ sizeLine; decide), fun x6 h6 => ⟨(by show 6 ≤ sizeLine; decide), fun xl hxl => ?_⟩⟩⟩⟩⟩⟩⟩
        have s1 := same1 h1 (.tup [.int 1, .int 2])
        have s2 := same1 h2 (.tup [.int (-3), .int 1])
        have s3 := same1 h3 (.tup [.int 0, .int 1])
        have s4 := same1 h4 (.tup [.int 2, .int 1])
        have s5 := same1 h5 (.tup [.int 2, .int 1])
        have s6 := same1 h6 (.tup [.int 1, .int 0])
        have s7 := same1 hxl (.lst [.ref x1, .ref x2, .ref x3, .ref x4, .ref x5, .ref x6])
        have sA := (((((s1.trans s2).trans s3).trans s4).trans s5).trans s6).trans s7
        have dl : DtL _ [.ref x1, .ref x2, .ref x3, .ref x4, .ref x5, .ref x6] [dFr (1, 2), dFr (-3, 1), dFr (0, 1), dFr (2, 1), dFr (2, 1), dFr (1, 0)] := .cons (dFr_mk (q := (1, 2)) (s7 _ _ (s6 _ _ (s5 _ _ (s4 _ _ (s3 _ _ (s2 _ _ upd_same))))))) (.cons (dFr_mk (q := (-3, 1)) (s7 _ _ (s6 _ _ (s5 _ _ (s4 _ _ (s3 _ _ upd_same)))))) (.cons (dFr_mk (q := (0, 1)) (s7 _ _ (s6 _ _ (s5 _ _ (s4 _ _ upd_same))))) (.cons (dFr_mk (q := (2, 1)) (s7 _ _ (s6 _ _ (s5 _ _ upd_same)))) (.cons (dFr_mk (q := (2, 1)) (s7 _ _ (s6 _ _ upd_same))) (.cons (dFr_mk (q := (1, 0)) (s7 _ _ upd_same)) .nil)))))
        refine ⟨_, rfl, q, 6, rfl, p5.up sA, by decide, by decide, fun r6 H6 a6 b6 t6 p6 => ?_⟩
        have k6 : Kd flatO _ H6 := kd_but t6 (p5.up sA).flat
        obtain ⟨v, dd, ev, dv, hm⟩ := dtl_atI (dl.mv k6) a6 b6
        obtain ⟨fq, rfl, hfq⟩ : ∃ fq : Fr, dd = dFr fq ∧ (FrOk fq ∨ fq = (1, 0)) := by
          simp only [List.mem_cons, List.not_mem_nil, or_false] at hm
          rcases hm with rfl | rfl | rfl | rfl | rfl | rfl
          · exact ⟨(1, 2), rfl, .inl (by decide)⟩
          · exact ⟨(-3, 1), rfl, .inl (by decide)⟩
          · exact ⟨(0, 1), rfl, .inl (by decide)⟩
          · exact ⟨(2, 1), rfl, .inl (by decide)⟩
          · exact ⟨(2, 1), rfl, .inl (by decide)⟩
          · exact ⟨(1, 0), rfl, .inr rfl⟩
        exact ⟨xl, _, _, _, rfl, rfl, SqL.of (k6 _ _ upd_same rfl), ev, v, fq, rfl, (but_of sA).trans t6, p6, dv, hfq⟩
      rintro σ H6 ⟨vq, fq, rfl, t6, p6, dq, hfq⟩
      have k56 : Kd flatO H5 H6 := kd_but t6 p5.flat
      refine ⟨_, rfl, _, rfl, _, rfl, _, rfl, q, 10, rfl, p6, by decide, by decide, fun r7 H7 a7 b7 t7 p7 => ?_⟩
      have k67 : Kd flatO H6 H7 := kd_but t7 p6.flat
      obtain ⟨z, hz, ez⟩ := strs_pick (ns := nms) a7 (by rw [ly]; exact b7)
      refine ⟨y, _, _, _, rfl, rfl, SqL.of ((k56.trans k67) _ _ ey5 (strs_flat _)), ez, ?_⟩
      refine ⟨_, rfl, _, rfl, q, 5, rfl, p7, by decide, by decide, fun r8 H8 a8 b8 t8 p8 => ?_⟩
      have k78 : Kd flatO H7 H8 := kd_but t8 p7.flat
      have k58 := (k56.trans k67).trans k78
      obtain ⟨vp, dd, evp, dvp, hm⟩ := dtl_atI (dl5.mv k58) a8 (by rw [List.length_map, lb5]; exact b8)
      obtain ⟨b, hb, rfl⟩ := List.mem_map.mp hm
      obtain ⟨pf1, pf2, pf3⟩ := okb5 b hb
      refine ⟨pb, _, _, _, rfl, rfl, SqL.of (k58 _ _ ea5 fl5), evp, _, rfl, (by show 6 ≤ sizeLine; decide), fun t ht => ?_⟩
      have s9 := same1 ht (.tup [.str u, .str n, .str "rope", .str z, vp, vq])
      obtain ⟨oz1, oz2, oz3⟩ := okNm_of (oky z hz)
      exact k1 _ _ (.rope u n z b.1 b.2 fq) ((((t5.trans t6).trans t7).trans t8).new ht _) (.tup upd_same (.cons (.str _) (.cons (.str _) (.cons (.str _) (.cons (.str _) (.cons (dvp.up s9) (.cons ((dq.mv (k67.trans k78)).up s9) .nil))))))) ⟨⟨hn, ⟨oz2, pf2⟩, sh_en_rope so_u so_n oz3 pf3⟩, ⟨oz1, pf1, hfq⟩, un⟩
    refine ⟨_, rfl, rfl, _, rfl, ite2 (fun _ => ?_) (fun _ => ?_)⟩
    · -- a dropped rope
      refine ⟨_, rfl, _, rfl, _, rfl, gv, _, _, _, rfl, rfl, SqL.of hg, rfl, r, kr, rfl, .inl hrr, fun a1 ha1 => ?_⟩
      rw [kyr]
      have s1 := same1 ha1 (.lst ((keys g.ropes).map V.str))
      refine ⟨(by show 1 ≤ sizeLine; decide), fun a2 ha2 => ?_⟩
      have s2 := same1 ha2 (.lst [.str "pq"])
      refine ⟨a1, a2, _, _, rfl, rfl, s2 _ _ upd_same, upd_same, (by rw [List.length_map]; show _ + 1 ≤ sizeLine; exact Nat.le_of_lt (small1000 (by omega))), fun a3 ha3 => ?_⟩
      have s3 := same_new (s1.trans s2) ha3 (.lst ((keys g.ropes).map V.str ++ [.str "pq"]))
      refine ⟨_, rfl, _, rfl, gv, _, _, _, rfl, rfl, SqL.of (s3 _ _ hg), rfl, r, kr, rfl, s3 _ _ hrr, _, _, rfl, rfl, q, _, rfl, p2.up s3, by omega, by omega, fun r3 H3 a3' b3 t3 p3 => ?_⟩
      have e3 := mvp (us := keys g.ropes ++ [("pq" : Str)]) t3 (p2.up s3) (l := a3) (by rw [upd_same, List.map_append]; rfl)
      obtain ⟨z, hz, ez⟩ := strs_pick (ns := keys g.ropes ++ [("pq" : Str)]) a3' (by rw [List.length_append, klr]; show r3 < ((g.ropes.length + 1 : Nat) : Int); omega)
      have oz : PyData.strOk z = true ∧ z.length ≤ 100 := by
        rcases List.mem_append.mp hz with h | h
        · obtain ⟨pr, hpr, rfl⟩ := List.mem_map.mp h
          have := (G.okr pr hpr).1
          exact ⟨strOk_name this, Nat.le_trans (WordB.len this) (by decide)⟩
        · rw [List.mem_singleton.mp h]
          exact ⟨by decide +kernel, by decide +kernel⟩
      refine ⟨a3, _, _, _, rfl, rfl, SqL.of e3, ez, (by show 4 ≤ sizeLine; decide), fun t ht => ?_⟩
      exact k1 _ _ (.drop u n z) ((bt2.trans ((but_of s3).trans t3)).new ht _) (.tup upd_same (.cons (.str _) (.cons (.str _) (.cons (.str _) (.cons (.str _) .nil))))) ⟨⟨hn, oz.2, sh_en_drop so_u so_n oz.1⟩, True.intro, un⟩
    · refine ⟨_, rfl, _, rfl, (by show 3 ≤ sizeLine; decide), fun t ht => ?_⟩
      exact k2 _ _ u n (bt2.new ht _) (.tup upd_same (.cons (.str _) (.cons (.str _) (.cons (.str _) .nil)))) un) (fun _ _ _ _ _ _ us hl => match us, hl with | [_, _], _ => rfl)
end
end K7

set_option Elab.async false
set_option linter.all false
set_option maxRecDepth 100000
set_option maxHeartbeats 4000000
/-! The deed done, what is caught. -/
namespace K7
open PySem PySem.Spec PyProof.Rows L2
def tMethSt (C : Addr) (m : Str) (sp : Sp) (E : St → XK) (ta : TE) (t : TA) : TE := fun σ H Q => ta σ H fun x H1 => ∃ a dx fs, x = .ref a ∧ H1 a = some (.ins C dx fs) ∧ fs.lookup m = none ∧ t σ H1 fun vs H2 => sp (.ref a :: vs) H2 Q (E σ)
section
variable {X : Cx} {CX : CXT} {k : Nat} {m : Str} {sp : Sp} {E : St → XK} {e o : Expr} {es : List Expr} {t : TA} {ta : TE} {pos apos : Pos} {C : Addr}
theorem pe_calMS {pl : Sem Bool} (he : PE X o ta) (c : Cls X.K C) (F : CalM X.prog X.w X.K X.mg X.base CX k C m sp) (hr : Room k X.A) (hx : ∀ σ, PassesAt CX X σ (E σ)) (ha : PA X (e :: es) t)
    (hst : starEach (e :: es) X.env = (false, eval e X.env) :: starEach es X.env := by rfl) (hpl : (backTo pos (starEach es X.env)).any (·.1) = false := by rfl)
    (ht : eval (.Call (.Attribute o m apos) (e :: es) [] pos) X.env = (do
      let ov ← eval o X.env
      standAt apos.atName
      let (f, first) ← holding [ov] (getMethod ov m pl)
      callWith pos f first (backTo pos (starEach (e :: es) X.env)) (backToKw pos (keywordEach [] X.env))) := by rfl) :
    PE X (.Call (.Attribute o m apos) (e :: es) [] pos) (tMethSt C m sp E ta t) := by
  obtain ⟨f, fd, ps, hm, G, hb⟩ := F
  refine ⟨fun pins s σ H Q I h => ?_⟩
  refine PySem.W.methodCall_KW (pl := pl) (thn (he.run pins s σ H _ I h) fun u s1 ⟨x, H1, I1, rx, a, dx, fs, ex, ea, l, q⟩ => ?_) ht
  subst ex
  obtain rfl : u = Value.ref a := rx
  refine getmeth_ok I1 ea c hm l ?_
  refine PySem.W.callWith_K (first := [.ref a]) (h₀ := X.base) I.ok.mod.kin hm.kp (thn (ha.run pos pins s1 σ H1 _ I1 q) fun us s2 ⟨vs, H2, I2, r, q2⟩ => ⟨I2.kIn, ?_⟩) hst hpl
  exact run_fnS (us := .ref a :: us) (vs := .ref a :: vs) G hr hb (hx σ) I2 (.cons rfl r) q2
end
theorem XTxt.xf {P : Program} {K : PySem.W.Frag} {mg : Str → Option Value} {x f : Str} {C fI : Addr} {Bi initId Bn newId : String} (T : XTxt P K mg x f C fI Bi initId Bn newId) : XfC K C := ⟨T.ga, T.gg, T.exC, T.hdC⟩
def dDone : PyData := .tuple [.str "entry", .none]
def spDone (K : PySem.W.Frag) : Sp := fun vs H Q _ => ∃ (p : Addr) (v : V) (f c : S2) (es : List En), vs = [.ref p, v] ∧ ShAt K H p f c es ∧ S2Ok f ∧ S2Ok c ∧ es.length ≤ 100 ∧ (∀ en ∈ es, EnOk en) ∧
  ((∃ en, Dt H v (dEn en) ∧ EnAll en ∧ (∀ er, dueS c en = some er → ∀ v' H', Same H H' → Dt H' v' (dEr er) → Q v' H') ∧
      (dueS c en = none → ∀ v' H', But p H H' → ShAt K H' p f (madeS c en) (es ++ [en]) → Dt H' v' dDone → Q v' H')) ∨
   ∃ u n, Dt H v (dUndo u n) ∧ NameB u = true ∧ ((places es u).getLast? = none → ∀ v' H', Same H H' → Dt H' v' (dEr .nothing) → Q v' H') ∧
      ∀ i en, (places es u).getLast? = some i → es[i]? = some en → (∀ er, replay f (without es i) = .error er → ∀ v' H', Same H H' → Dt H' v' (dEr er) → Q v' H') ∧
        ∀ c', replay f (without es i) = .ok c' → ∀ v' H', But p H H' → ShAt K H' p f c' (without es i) → Dt H' v' (.tuple [.str "entry", dEn en]) → Q v' H')
theorem dUndo_inv {H : Hp} {v : V} {u n : Str} (h : Dt H v (dUndo u n)) : ∃ a, v = .ref a ∧ H a = some (.tup [.str u, .str n, .str "undo"]) := by
  cases h with
  | tup e t =>
    cases t with
    | cons h1 t =>
      cases t with
      | cons h2 t =>
        cases t with
        | cons h3 t =>
          cases t
          cases h1
          cases h2
          cases h3
          exact ⟨_, rfl, e⟩
theorem lk1a {x : Str} {v : V} : List.lookup x [(x, v)] = some v := by rw [List.lookup_cons, beq_self_eq_true]
theorem rs6 {P : Program} {K : PySem.W.Frag} {mg : Str → Option Value} (T : TX P K mg) {D : Ends} {ts1 ts2 ts3 ts4 ts5 ts6 : Addr → Value → Option Addr → TS} {σ : L2.St} {H : Hp} {er : Er} {R : V → Hp → Prop}
    (k : ∀ v' H', Same H H' → Dt H' v' (dEr er) → R v' H')
    (h1 : ∀ (z : Str) (d a : Addr) (H' : Hp), H' d = some (.xd [("name", .str z)]) → H' a = none → (∀ v' H'', Same H' H'' → Dt H'' v' (dEr (.unknown z)) → R v' H'') → ts1 a (.ref (ga K "UnknownName")) (some d) (goneE (some 2) D) (setO σ (some 2) a) H')
    (h2 : ∀ (v : V) (q : Fr) (d a : Addr) (H' : Hp), H' d = some (.xd [("value", v)]) → Dt H' v (dFr q) → H' a = none → (∀ v' H'', Same H' H'' → Dt H'' v' (dEr (.number q)) → R v' H'') → ts2 a (.ref (ga K "InvalidNumber")) (some d) (goneE (some 2) D) (setO σ (some 2) a) H')
    (h3 : ∀ (z : Str) (d a : Addr) (H' : Hp), H' d = some (.xd [("value", .str z)]) → H' a = none → (∀ v' H'', Same H' H'' → Dt H'' v' (dEr (.name z)) → R v' H'') → ts3 a (.ref (ga K "InvalidName")) (some d) (goneE (some 2) D) (setO σ (some 2) a) H')
    (h4 : ∀ (z : Str) (d a : Addr) (H' : Hp), H' d = some (.xd [("name", .str z)]) → H' a = none → (∀ v' H'', Same H' H'' → Dt H'' v' (dEr (.rope z)) → R v' H'') → ts4 a (.ref (ga K "InvalidRope")) (some d) (goneE (some 2) D) (setO σ (some 2) a) H')
    (h5 : ∀ (d a : Addr) (H' : Hp), H' d = some (.xd [("count", .int 11)]) → H' a = none → (∀ v' H'', Same H' H'' → Dt H'' v' (dEr .limit) → R v' H'') → ts5 a (.ref (ga K "LimitExceeded")) (some d) (goneE (some 2) D) (setO σ (some 2) a) H')
    (h6 : ∀ (a : Addr) (H' : Hp), H' a = none → (∀ v' H'', Same H' H'' → Dt H'' v' (dEr .nothing) → R v' H'') → ts6 a (.ref (ga K "NothingToUndo")) none (goneE none D) (setO σ none a) H') :
    RsE K er H (WE (wMix K (fun _ _ _ _ => False) D [(.ref (ga K "UnknownName"), some 2, ts1), (.ref (ga K "InvalidNumber"), some 2, ts2), (.ref (ga K "InvalidName"), some 2, ts3), (.ref (ga K "InvalidRope"), some 2, ts4), (.ref (ga K "LimitExceeded"), some 2, ts5), (.ref (ga K "NothingToUndo"), none, ts6)]) σ) := by
  have hit : ∀ x ∈ exNames, PySem.W.exmOne K (.ref (ga K x)) (.ref (ga K x)) = some true := fun x hx => by rw [T.exm x hx x hx, decide_eq_true rfl]
  have miss : ∀ x ∈ exNames, ∀ y ∈ exNames, ¬ x = y → PySem.W.exmOne K (.ref (ga K x)) (.ref (ga K y)) = some false := fun x hx y hy n => by rw [T.exm x hx y hy, decide_eq_false n]
  have m1 : ("UnknownName" : Str) ∈ exNames := by unfold exNames; simp
  have m2 : ("InvalidNumber" : Str) ∈ exNames := by unfold exNames; simp
  have m3 : ("InvalidName" : Str) ∈ exNames := by unfold exNames; simp
  have m4 : ("InvalidRope" : Str) ∈ exNames := by unfold exNames; simp
  have m5 : ("LimitExceeded" : Str) ∈ exNames := by unfold exNames; simp
  have m6 : ("NothingToUndo" : Str) ∈ exNames := by unfold exNames; simp
  cases er with
  | unknown z =>
    intro d H' s e
    exact ⟨true, hit _ m1, fun _ a ha => h1 z d a H' e ha fun v' H'' s' dt => k v' H'' (s.trans s') dt, fun z => by cases z⟩
  | number q =>
    intro H1 v s1 dv d H' s e
    exact ⟨false, miss _ m2 _ m1 (by decide +kernel), (fun z => by cases z), fun _ => ⟨true, hit _ m2, fun _ a ha => h2 v q d a H' e (dv.up s) ha fun v' H'' s' dt => k v' H'' ((s1.trans s).trans s') dt, fun z => by cases z⟩⟩
  | name z =>
    intro d H' s e
    exact ⟨false, miss _ m3 _ m1 (by decide +kernel), (fun z => by cases z), fun _ => ⟨false, miss _ m3 _ m2 (by decide +kernel), (fun z => by cases z), fun _ => ⟨true, hit _ m3, fun _ a ha => h3 z d a H' e ha fun v' H'' s' dt => k v' H'' (s.trans s') dt, fun z => by cases z⟩⟩⟩
  | rope z =>
    intro d H' s e
    exact ⟨false, miss _ m4 _ m1 (by decide +kernel), (fun z => by cases z), fun _ => ⟨false, miss _ m4 _ m2 (by decide +kernel), (fun z => by cases z), fun _ => ⟨false, miss _ m4 _ m3 (by decide +kernel), (fun z => by cases z), fun _ => ⟨true, hit _ m4, fun _ a ha => h4 z d a H' e ha fun v' H'' s' dt => k v' H'' (s.trans s') dt, fun z => by cases z⟩⟩⟩⟩
  | limit =>
    intro d H' s e
    exact ⟨false, miss _ m5 _ m1 (by decide +kernel), (fun z => by cases z), fun _ => ⟨false, miss _ m5 _ m2 (by decide +kernel), (fun z => by cases z), fun _ => ⟨false, miss _ m5 _ m3 (by decide +kernel), (fun z => by cases z), fun _ => ⟨false, miss _ m5 _ m4 (by decide +kernel), (fun z => by cases z), fun _ => ⟨true, hit _ m5, fun _ a ha => h5 d a H' e ha fun v' H'' s' dt => k v' H'' (s.trans s') dt, fun z => by cases z⟩⟩⟩⟩⟩
  | nothing =>
    intro H' s
    exact ⟨false, miss _ m6 _ m1 (by decide +kernel), (fun z => by cases z), fun _ => ⟨false, miss _ m6 _ m2 (by decide +kernel), (fun z => by cases z), fun _ => ⟨false, miss _ m6 _ m3 (by decide +kernel), (fun z => by cases z), fun _ => ⟨false, miss _ m6 _ m4 (by decide +kernel), (fun z => by cases z), fun _ => ⟨false, miss _ m6 _ m5 (by decide +kernel), (fun z => by cases z), fun _ => ⟨true, hit _ m6, fun _ a ha => h6 a H' ha fun v' H'' s' dt => k v' H'' (s.trans s') dt, fun z => by cases z⟩⟩⟩⟩⟩⟩
section
variable {P : Program} {w : World} {K : PySem.W.Frag} {mg : Str → Option Value} {base : Heap}
theorem cal_done (T : TX P K mg) : Cal P w K mg base CX0 11 "_law_done" (spDone K) := T.g_law_done.cal (ps := ["_law_shop", "_law_entry_here"]) (fun f fd F => by
  refine F.ok c_law_done (fun vs H Q E h => ?_) (fun cdv A outer s H vs Q E hr h => ?_)
  · obtain ⟨p, v, f, c, es, rfl, _⟩ := h
    rfl
  · obtain ⟨p, v, f, c, es, rfl, S, Of, Oc, l100, eok, alt⟩ := h
    have nd := c_law_done.nd
    have hr9 : Room 9 _ := hr.mono (by decide)
    obtain ⟨i1, X1⟩ := T.x_UnknownName
    obtain ⟨i2, X2⟩ := T.x_InvalidNumber
    obtain ⟨i3, X3⟩ := T.x_InvalidName
    obtain ⟨i4, X4⟩ := T.x_InvalidRope
    obtain ⟨i5, X5⟩ := T.x_LimitExceeded
    refine ⟨_, pss_one (ps_try_mix rfl rfl nd takes0 (fun W pn xe tk _ =>
        pss_cons (ps_if (pt_cmpR op_eq (pe_ix (show IxR _ (rIxT K) from ix_tup) (pv 1) pe_int (fun _ _ => rfl)) pe_str (nomark _)) (pss_one (ps_ret (pe_tup (pa_cons pe_str (pa_cons (pe_calMS (pv 0) T.c_S (cal_set_load T) hr (fun σ => passAt tk σ)
            (pa_cons (pe_ix (show IxR _ (rIxT K) from ix_tup) (pv 1) pe_int (fun _ _ => rfl)) (pa_cons (pe_ix (show IxR _ (rIxT K) from ix_tup) (pv 1) pe_int (fun _ _ => rfl)) (pa_cons (pe_ix (show IxR _ (rIxT K) from ix_tup) (pv 1) pe_int (fun _ _ => rfl)) (pa_cons (pe_ix (show IxR _ (rIxT K) from ix_tup) (pv 1) pe_int (fun _ _ => rfl)) pa_nil))))) pa_nil))))) pss_nil)
        (pss_cons (ps_if (pt_cmpR op_eq (pe_ix (show IxR _ (rIxT K) from ix_tup) (pv 1) pe_int (fun _ _ => rfl)) pe_str (nomark _)) (pss_one (ps_ret (pe_tup (pa_cons pe_str (pa_cons (pe_calMS (pv 0) T.c_S (cal_set_rope T) hr (fun σ => passAt tk σ)
            (pa_cons (pe_ix (show IxR _ (rIxT K) from ix_tup) (pv 1) pe_int (fun _ _ => rfl)) (pa_cons (pe_ix (show IxR _ (rIxT K) from ix_tup) (pv 1) pe_int (fun _ _ => rfl)) (pa_cons (pe_ix (show IxR _ (rIxT K) from ix_tup) (pv 1) pe_int (fun _ _ => rfl)) (pa_cons (pe_ix (show IxR _ (rIxT K) from ix_tup) (pv 1) pe_int (fun _ _ => rfl)) (pa_cons (pe_ix (show IxR _ (rIxT K) from ix_tup) (pv 1) pe_int (fun _ _ => rfl)) pa_nil)))))) pa_nil))))) pss_nil)
        (pss_cons (ps_if (pt_cmpR op_eq (pe_ix (show IxR _ (rIxT K) from ix_tup) (pv 1) pe_int (fun _ _ => rfl)) pe_str (nomark _)) (pss_one (ps_ret (pe_tup (pa_cons pe_str (pa_cons (pe_calMS (pv 0) T.c_S (cal_drop_rope T) hr (fun σ => passAt tk σ)
            (pa_cons (pe_ix (show IxR _ (rIxT K) from ix_tup) (pv 1) pe_int (fun _ _ => rfl)) (pa_cons (pe_ix (show IxR _ (rIxT K) from ix_tup) (pv 1) pe_int (fun _ _ => rfl)) (pa_cons (pe_ix (show IxR _ (rIxT K) from ix_tup) (pv 1) pe_int (fun _ _ => rfl)) pa_nil)))) pa_nil))))) pss_nil)
        (pss_one (ps_ret (pe_tup (pa_cons pe_str (pa_cons (pe_calMS (pv 0) T.c_S (cal_undo T) hr9 (fun σ => passAt tk σ) (pa_cons (pe_ix (show IxR _ (rIxT K) from ix_tup) (pv 1) pe_int (fun _ _ => rfl)) pa_nil)) pa_nil))))))))
      (.cons (io := some 2) ⟨rfl, by decide, .inl X1.gC⟩ (.inr ⟨_, _, rfl, rfl, rfl, rfl⟩) (fun a oe cls d pn hz hf => pss_one (ps_ret (pe_tup (pa_cons pe_str (pa_cons (pe_xf X1.xf X1.noN hz hf (pv 2)) pa_nil)))))
      (.cons (io := some 2) ⟨rfl, by decide, .inl X2.gC⟩ (.inr ⟨_, _, rfl, rfl, rfl, rfl⟩) (fun a oe cls d pn hz hf => pss_one (ps_ret (pe_tup (pa_cons pe_str (pa_cons (pe_xf X2.xf X2.noN hz hf (pv 2)) pa_nil)))))
      (.cons (io := some 2) ⟨rfl, by decide, .inl X3.gC⟩ (.inr ⟨_, _, rfl, rfl, rfl, rfl⟩) (fun a oe cls d pn hz hf => pss_one (ps_ret (pe_tup (pa_cons pe_str (pa_cons (pe_xf X3.xf X3.noN hz hf (pv 2)) pa_nil)))))
      (.cons (io := some 2) ⟨rfl, by decide, .inl X4.gC⟩ (.inr ⟨_, _, rfl, rfl, rfl, rfl⟩) (fun a oe cls d pn hz hf => pss_one (ps_ret (pe_tup (pa_cons pe_str (pa_cons (pe_xf X4.xf X4.noN hz hf (pv 2)) pa_nil)))))
      (.cons (io := some 2) ⟨rfl, by decide, .inl X5.gC⟩ (.inr ⟨_, _, rfl, rfl, rfl, rfl⟩) (fun a oe cls d pn hz hf => pss_one (ps_ret (pe_tup (pa_cons pe_str (pa_cons (pe_xf X5.xf X5.noN hz hf (pv 2)) pa_nil)))))
      (.cons (io := none) ⟨rfl, by decide, .inl T.n_g⟩ (.inl ⟨rfl, rfl⟩) (fun a oe cls d pn hz hf => pss_one (ps_ret (pe_tup (pa_cons pe_str (pa_cons pe_non pa_nil))))) .nil))))))), ?_⟩
    obtain ⟨dx, fw, ow, oe, xs, hp, _⟩ := id S
    have endN : ∀ (H1 : Hp), 2 ≤ sizeLine ∧ ((∀ t, H1 t = none → Q (.ref t) (upd H1 t (.tup [.str "entry", .non]))) → ∀ t, H1 t = none → Q (.ref t) (upd H1 t (.tup [.str "entry", .non]))) := fun H1 => ⟨by decide, fun h => h⟩
    rcases alt with ⟨en, dv, ea, k1, k2⟩ | ⟨u, n, dv, hu, k1, k2⟩
    · obtain ⟨a, ys, rfl, ha, ex⟩ := dEn_inv dv
      have okK : dueS c en = none → ∀ H', But p H H' → ShAt K H' p f (madeS c en) (es ++ [en]) → 2 ≤ sizeLine ∧ ∀ t, H' t = none → Q (.ref t) (upd H' t (.tup [.str "entry", .non])) := fun e H' b S' =>
        ⟨by decide, fun t ht => k2 e _ _ (b.new ht _) (S'.up (same1 ht _)) (.tup upd_same (.cons (.str _) (.cons .non .nil)))⟩
      cases en with
      | load u n z q =>
        obtain ⟨vq, rfl, dq⟩ := ex
        refine ⟨_, rfl, a, _, _, _, rfl, rfl, SqT.of ha, rfl, rfl, _, rfl, ?_⟩
        rw [decide_eq_true rfl]
        refine iteT ?_
        refine ⟨_, rfl, p, dx, _, rfl, hp, lN (by decide +kernel) (by decide +kernel) (by decide +kernel), _, rfl, a, _, _, _, rfl, rfl, SqT.of ha, rfl, _, rfl, a, _, _, _, rfl, rfl, SqT.of ha, rfl, _, rfl, a, _, _, _, rfl, rfl, SqT.of ha, rfl, _, rfl, a, _, _, _, rfl, rfl, SqT.of ha, rfl, ?_⟩
        refine ⟨p, f, c, es, .load u n z q, .non, vq, rfl, True.intro, S, Oc, dq, ea.1, ea.2.2, l100, fun er e => ?_, fun e H' b S' => okK e H' b S'⟩
        exact (rs6 T (R := Q) (k1 er e) (fun z d a H' e ha kk => ⟨_, rfl, rfl, rfl, d, _, _, rfl, e, lk1a, (by show 2 ≤ sizeLine; decide), fun t ht => kk _ _ (same1 ht _) (.tup upd_same (.cons (.str _) (.cons (.str _) .nil)))⟩)
          (fun v q d a H' e dq ha kk => ⟨_, rfl, rfl, rfl, d, _, _, rfl, e, lk1a, (by show 2 ≤ sizeLine; decide), fun t ht => kk _ _ (same1 ht _) (.tup upd_same (.cons (.str _) (.cons (dq.up (same1 ht _)) .nil)))⟩)
          (fun z d a H' e ha kk => ⟨_, rfl, rfl, rfl, d, _, _, rfl, e, lk1a, (by show 2 ≤ sizeLine; decide), fun t ht => kk _ _ (same1 ht _) (.tup upd_same (.cons (.str _) (.cons (.str _) .nil)))⟩)
          (fun z d a H' e ha kk => ⟨_, rfl, rfl, rfl, d, _, _, rfl, e, lk1a, (by show 2 ≤ sizeLine; decide), fun t ht => kk _ _ (same1 ht _) (.tup upd_same (.cons (.str _) (.cons (.str _) .nil)))⟩)
          (fun d a H' e ha kk => ⟨_, rfl, rfl, rfl, d, _, _, rfl, e, lk1a, (by show 2 ≤ sizeLine; decide), fun t ht => kk _ _ (same1 ht _) (.tup upd_same (.cons (.str _) (.cons (.int _) .nil)))⟩)
          (fun a H' ha kk => ⟨(by show 2 ≤ sizeLine; decide), fun t ht => kk _ _ (same1 ht _) (.tup upd_same (.cons (.str _) (.cons .non .nil)))⟩))
      | rope u n z b ws q =>
        obtain ⟨vp, vq, rfl, dp, dq⟩ := ex
        refine ⟨_, rfl, a, _, _, _, rfl, rfl, SqT.of ha, rfl, rfl, _, rfl, ?_⟩
        rw [ne_str ne_lr]
        refine iteF ?_
        refine ⟨_, rfl, a, _, _, _, rfl, rfl, SqT.of ha, rfl, rfl, _, rfl, ?_⟩
        rw [decide_eq_true rfl]
        refine iteT ?_
        refine ⟨_, rfl, p, dx, _, rfl, hp, lN (by decide +kernel) (by decide +kernel) (by decide +kernel), _, rfl, a, _, _, _, rfl, rfl, SqT.of ha, rfl, _, rfl, a, _, _, _, rfl, rfl, SqT.of ha, rfl, _, rfl, a, _, _, _, rfl, rfl, SqT.of ha, rfl, _, rfl, a, _, _, _, rfl, rfl, SqT.of ha, rfl, _, rfl, a, _, _, _, rfl, rfl, SqT.of ha, rfl, ?_⟩
        refine ⟨p, f, c, es, .rope u n z b ws q, vp, vq, rfl, True.intro, S, Oc, ⟨dp, dq⟩, ea.1, ea.2.2, l100, fun er e => ?_, fun e H' b S' => okK e H' b S'⟩
        exact (rs6 T (R := Q) (k1 er e) (fun z d a H' e ha kk => ⟨_, rfl, rfl, rfl, d, _, _, rfl, e, lk1a, (by show 2 ≤ sizeLine; decide), fun t ht => kk _ _ (same1 ht _) (.tup upd_same (.cons (.str _) (.cons (.str _) .nil)))⟩)
          (fun v q d a H' e dq ha kk => ⟨_, rfl, rfl, rfl, d, _, _, rfl, e, lk1a, (by show 2 ≤ sizeLine; decide), fun t ht => kk _ _ (same1 ht _) (.tup upd_same (.cons (.str _) (.cons (dq.up (same1 ht _)) .nil)))⟩)
          (fun z d a H' e ha kk => ⟨_, rfl, rfl, rfl, d, _, _, rfl, e, lk1a, (by show 2 ≤ sizeLine; decide), fun t ht => kk _ _ (same1 ht _) (.tup upd_same (.cons (.str _) (.cons (.str _) .nil)))⟩)
          (fun z d a H' e ha kk => ⟨_, rfl, rfl, rfl, d, _, _, rfl, e, lk1a, (by show 2 ≤ sizeLine; decide), fun t ht => kk _ _ (same1 ht _) (.tup upd_same (.cons (.str _) (.cons (.str _) .nil)))⟩)
          (fun d a H' e ha kk => ⟨_, rfl, rfl, rfl, d, _, _, rfl, e, lk1a, (by show 2 ≤ sizeLine; decide), fun t ht => kk _ _ (same1 ht _) (.tup upd_same (.cons (.str _) (.cons (.int _) .nil)))⟩)
          (fun a H' ha kk => ⟨(by show 2 ≤ sizeLine; decide), fun t ht => kk _ _ (same1 ht _) (.tup upd_same (.cons (.str _) (.cons .non .nil)))⟩))
      | drop u n z =>
        obtain rfl := ex
        refine ⟨_, rfl, a, _, _, _, rfl, rfl, SqT.of ha, rfl, rfl, _, rfl, ?_⟩
        rw [ne_str ne_dl]
        refine iteF ?_
        refine ⟨_, rfl, a, _, _, _, rfl, rfl, SqT.of ha, rfl, rfl, _, rfl, ?_⟩
        rw [ne_str ne_dr]
        refine iteF ?_
        refine ⟨_, rfl, a, _, _, _, rfl, rfl, SqT.of ha, rfl, rfl, _, rfl, ?_⟩
        rw [decide_eq_true rfl]
        refine iteT ?_
        refine ⟨_, rfl, p, dx, _, rfl, hp, lN (by decide +kernel) (by decide +kernel) (by decide +kernel), _, rfl, a, _, _, _, rfl, rfl, SqT.of ha, rfl, _, rfl, a, _, _, _, rfl, rfl, SqT.of ha, rfl, _, rfl, a, _, _, _, rfl, rfl, SqT.of ha, rfl, ?_⟩
        refine ⟨p, f, c, es, .drop u n z, .non, .non, rfl, True.intro, S, Oc, True.intro, ea.1, ea.2.2, l100, fun er e => ?_, fun e H' b S' => okK e H' b S'⟩
        exact (rs6 T (R := Q) (k1 er e) (fun z d a H' e ha kk => ⟨_, rfl, rfl, rfl, d, _, _, rfl, e, lk1a, (by show 2 ≤ sizeLine; decide), fun t ht => kk _ _ (same1 ht _) (.tup upd_same (.cons (.str _) (.cons (.str _) .nil)))⟩)
          (fun v q d a H' e dq ha kk => ⟨_, rfl, rfl, rfl, d, _, _, rfl, e, lk1a, (by show 2 ≤ sizeLine; decide), fun t ht => kk _ _ (same1 ht _) (.tup upd_same (.cons (.str _) (.cons (dq.up (same1 ht _)) .nil)))⟩)
          (fun z d a H' e ha kk => ⟨_, rfl, rfl, rfl, d, _, _, rfl, e, lk1a, (by show 2 ≤ sizeLine; decide), fun t ht => kk _ _ (same1 ht _) (.tup upd_same (.cons (.str _) (.cons (.str _) .nil)))⟩)
          (fun z d a H' e ha kk => ⟨_, rfl, rfl, rfl, d, _, _, rfl, e, lk1a, (by show 2 ≤ sizeLine; decide), fun t ht => kk _ _ (same1 ht _) (.tup upd_same (.cons (.str _) (.cons (.str _) .nil)))⟩)
          (fun d a H' e ha kk => ⟨_, rfl, rfl, rfl, d, _, _, rfl, e, lk1a, (by show 2 ≤ sizeLine; decide), fun t ht => kk _ _ (same1 ht _) (.tup upd_same (.cons (.str _) (.cons (.int _) .nil)))⟩)
          (fun a H' ha kk => ⟨(by show 2 ≤ sizeLine; decide), fun t ht => kk _ _ (same1 ht _) (.tup upd_same (.cons (.str _) (.cons .non .nil)))⟩))
    · obtain ⟨a, rfl, ha⟩ := dUndo_inv dv
      refine ⟨_, rfl, a, _, _, _, rfl, rfl, SqT.of ha, rfl, rfl, _, rfl, ?_⟩
      rw [ne_str (by decide +kernel)]
      refine iteF ?_
      refine ⟨_, rfl, a, _, _, _, rfl, rfl, SqT.of ha, rfl, rfl, _, rfl, ?_⟩
      rw [ne_str (by decide +kernel)]
      refine iteF ?_
      refine ⟨_, rfl, a, _, _, _, rfl, rfl, SqT.of ha, rfl, rfl, _, rfl, ?_⟩
      rw [ne_str (by decide +kernel)]
      refine iteF ?_
      refine ⟨_, rfl, p, dx, _, rfl, hp, lN (by decide +kernel) (by decide +kernel) (by decide +kernel), _, rfl, a, _, _, _, rfl, rfl, SqT.of ha, rfl, ?_⟩
      refine ⟨p, f, c, es, u, rfl, S, Of, eok, hu, l100, fun e => ?_, fun i en e1 e2 => ⟨fun er e => ?_, fun c' e v' H' b S' d' => ?_⟩⟩
      · exact (rs6 T (R := Q) (k1 e) (fun z d a H' e ha kk => ⟨_, rfl, rfl, rfl, d, _, _, rfl, e, lk1a, (by show 2 ≤ sizeLine; decide), fun t ht => kk _ _ (same1 ht _) (.tup upd_same (.cons (.str _) (.cons (.str _) .nil)))⟩)
          (fun v q d a H' e dq ha kk => ⟨_, rfl, rfl, rfl, d, _, _, rfl, e, lk1a, (by show 2 ≤ sizeLine; decide), fun t ht => kk _ _ (same1 ht _) (.tup upd_same (.cons (.str _) (.cons (dq.up (same1 ht _)) .nil)))⟩)
          (fun z d a H' e ha kk => ⟨_, rfl, rfl, rfl, d, _, _, rfl, e, lk1a, (by show 2 ≤ sizeLine; decide), fun t ht => kk _ _ (same1 ht _) (.tup upd_same (.cons (.str _) (.cons (.str _) .nil)))⟩)
          (fun z d a H' e ha kk => ⟨_, rfl, rfl, rfl, d, _, _, rfl, e, lk1a, (by show 2 ≤ sizeLine; decide), fun t ht => kk _ _ (same1 ht _) (.tup upd_same (.cons (.str _) (.cons (.str _) .nil)))⟩)
          (fun d a H' e ha kk => ⟨_, rfl, rfl, rfl, d, _, _, rfl, e, lk1a, (by show 2 ≤ sizeLine; decide), fun t ht => kk _ _ (same1 ht _) (.tup upd_same (.cons (.str _) (.cons (.int _) .nil)))⟩)
          (fun a H' ha kk => ⟨(by show 2 ≤ sizeLine; decide), fun t ht => kk _ _ (same1 ht _) (.tup upd_same (.cons (.str _) (.cons .non .nil)))⟩))
      · exact (rs6 T (R := Q) ((k2 i en e1 e2).1 er e) (fun z d a H' e ha kk => ⟨_, rfl, rfl, rfl, d, _, _, rfl, e, lk1a, (by show 2 ≤ sizeLine; decide), fun t ht => kk _ _ (same1 ht _) (.tup upd_same (.cons (.str _) (.cons (.str _) .nil)))⟩)
          (fun v q d a H' e dq ha kk => ⟨_, rfl, rfl, rfl, d, _, _, rfl, e, lk1a, (by show 2 ≤ sizeLine; decide), fun t ht => kk _ _ (same1 ht _) (.tup upd_same (.cons (.str _) (.cons (dq.up (same1 ht _)) .nil)))⟩)
          (fun z d a H' e ha kk => ⟨_, rfl, rfl, rfl, d, _, _, rfl, e, lk1a, (by show 2 ≤ sizeLine; decide), fun t ht => kk _ _ (same1 ht _) (.tup upd_same (.cons (.str _) (.cons (.str _) .nil)))⟩)
          (fun z d a H' e ha kk => ⟨_, rfl, rfl, rfl, d, _, _, rfl, e, lk1a, (by show 2 ≤ sizeLine; decide), fun t ht => kk _ _ (same1 ht _) (.tup upd_same (.cons (.str _) (.cons (.str _) .nil)))⟩)
          (fun d a H' e ha kk => ⟨_, rfl, rfl, rfl, d, _, _, rfl, e, lk1a, (by show 2 ≤ sizeLine; decide), fun t ht => kk _ _ (same1 ht _) (.tup upd_same (.cons (.str _) (.cons (.int _) .nil)))⟩)
          (fun a H' ha kk => ⟨(by show 2 ≤ sizeLine; decide), fun t ht => kk _ _ (same1 ht _) (.tup upd_same (.cons (.str _) (.cons .non .nil)))⟩))
      · refine ⟨(by show 2 ≤ sizeLine; decide), fun t ht => ?_⟩
        exact (k2 i en e1 e2).2 c' e _ _ (b.new ht _) (S'.up (same1 ht _)) (.tup upd_same (.cons (.str _) (.cons (d'.up (same1 ht _)) .nil)))) (fun _ _ _ _ _ _ us hl => match us, hl with | [_, _], _ => rfl)
end
end K7

set_option Elab.async false
set_option linter.all false
set_option maxRecDepth 100000
set_option maxHeartbeats 4000000
/-! What the workshop shows. -/
namespace K7
open PySem PySem.Spec PyProof.Rows L2
def workO : HO → Bool
  | .tup _ => true
  | .dK _ => true
  | .ins _ _ fs => (fs.lookup ("own_entries" : Str)).isNone
  | _ => false
theorem Kd.wtup {H H' : Hp} (k : Kd workO H H') : Kd tupO H H' := fun b o e q => k b o e (by
  cases o with
  | tup _ => rfl
  | _ => cases q)
theorem dFr_mvT {H H' : Hp} {v : V} {q : Fr} (h : Dt H v (dFr q)) (k : Kd tupO H H') : Dt H' v (dFr q) := ((frV_of h).mv k).dt
theorem dRp_mvT {H H' : Hp} {v : V} {r : Rp} (h : Dt H v (dRp r)) (t : r.1.1 = true) (k : Kd tupO H H') : Dt H' v (dRp r) := by
  obtain ⟨a, v1, v2, rfl, e, d1, d2⟩ := dRp_inv h
  obtain ⟨⟨b, ws⟩, q⟩ := r
  cases t
  obtain ⟨a1, rfl, e1⟩ := dPath_inv d1
  exact dRp_mk (k _ _ e rfl) (dPath_mk (k _ _ e1 rfl)) (dFr_mvT d2 k)
theorem ropeB_tup {ps : List Str} {r : Rp} (h : RopeB ps r = true) : r.1.1 = true := by
  unfold RopeB PathB at h
  rw [Bool.and_eq_true, Bool.and_eq_true] at h
  exact h.1.1
theorem al_mem {α β : Type} {R S : α → β → Prop} : ∀ {as : List α} {bs : List β}, Al R as bs → (∀ a b, b ∈ bs → R a b → S a b) → Al S as bs
  | _, _, .nil, _ => .nil
  | _, _, .cons h t, f => .cons (f _ _ (by simp) h) (al_mem t fun a b hb => f a b (List.mem_cons_of_mem _ hb))
theorem WkAt.mvT {K : PySem.W.Frag} {H H' : Hp} {v : V} {g : Gv} (W : WkAt K H v g) (G : GvOk g) (k : Kd workO H H') : WkAt K H' v g := by
  obtain ⟨a, dx, l, h, r, ml, mh, mr, rfl, ea, ⟨kl, el, al⟩, ⟨kh, eh, ah⟩, ⟨kr, er, ar⟩, pl, ph, pr⟩ := W
  refine ⟨a, dx, l, h, r, ml, mh, mr, rfl, k _ _ ea (work_full (C := ga K "Work") (dx := dx)), ⟨kl, k _ _ el rfl, al.mono fun _ _ e => ⟨e.1, dFr_mvT e.2 k.wtup⟩⟩, ⟨kh, k _ _ eh rfl, ah.mono fun _ _ e => ⟨e.1, dFr_mvT e.2 k.wtup⟩⟩, ⟨kr, k _ _ er rfl, ?_⟩, pl, ph, pr⟩
  exact al_mem ar fun p q hq e => ⟨e.1, dRp_mvT e.2 (ropeB_tup (G.okr q (pr.mem_iff.mp hq)).2) k.wtup⟩
def spShows (K : PySem.W.Frag) : Sp := fun vs H Q _ => ∃ (p d ae : Addr) (f c : S2) (es : List En) (xs : List V), vs = [.ref p, .ref d, .ref ae] ∧ ShAt K H p f c es ∧ StA H d c ∧ S2Ok c ∧ H ae = some (.lst xs) ∧ DtL H xs (es.map dEn) ∧ (∀ en ∈ es, EnOk en) ∧ es.length ≤ 100 ∧ ∀ H', Same H H' → Q (.bl true) H'
theorem sh_ens {es : List En} (h : ∀ en ∈ es, EnOk en) : Sh 6 (.list (es.map dEn)) := Sh.lst fun d hd => by
  obtain ⟨en, he, rfl⟩ := List.mem_map.mp hd
  exact (h en he).2.2
def twoN : List Str := ["one", "two"]
section
variable {P : Program} {w : World} {K : PySem.W.Frag} {mg : Str → Option Value} {base : Heap}
theorem cal_shows (T : TX P K mg) : Cal P w K mg base CX0 9 "_law_shows" (spShows K) := T.g_law_shows.cal (ps := ["_law_shop", "_law_states", "_law_entries"]) (fun f fd F => by
  refine F.ok c_law_shows (fun vs H Q E h => ?_) (fun cdv A outer s H vs Q E hr h => ?_)
  · obtain ⟨p, d, ae, f, c, es, xs, rfl, _⟩ := h
    rfl
  · obtain ⟨p, d, ae, f, c, es, xs, rfl, S, W, O, hae, dae, eok, l100, k⟩ := h
    have nd := c_law_shows.nd
    have hu := hu_of hr
    have hu0 := hr.units
    have hr2 : Room 2 _ := hr.mono (by decide)
    have hr4 : Room 3 _ := hr.mono (by decide)
    have hr7 : Room 7 _ := hr.mono (by decide)
    obtain ⟨pe, ge, fde, Pe, Ge, be⟩ := fn_entries (P := P) (w := w) (base := base) T
    obtain ⟨pn, gn, fdn, Pn, Gn, bn⟩ := fn_names (P := P) (w := w) (base := base) T
    obtain ⟨fl, fdl, psl, Ml, Gl', bl⟩ := cal_shop_len (P := P) (w := w) (base := base) T
    obtain ⟨fq, fdq, psq, Mq, Gq, bq⟩ := cal_work_eq (P := P) (w := w) (base := base) T
    have okB := @blkOk_by n_law_shows
    refine ⟨_, pss_cons (ps_if (PW.pt (pw_or (pt_cmpR (op_neD hu0) (pe_prop (pv 0) T.c_S Pe Ge hr2 be .nil pass0 rfl) (pv 2) (nomark _))
          (pw_or (pt_cmpR op_ne (pe_callB (call_lenO Gl' Ml.at_ Ml.fn hr2 bl pass0) (by rfl) T.f_len PySem.boot_len (pa_cons (pv 0) pa_nil)) (pe_callB call_len_seq (by rfl) T.f_len PySem.boot_len (pa_cons (pv 2) pa_nil)) (nomark _))
          (pw_or1 (pt_cmpR (op_neD hu0) (pe_prop (pv 0) T.c_S Pn Gn hr2 bn .nil pass0 rfl) (pe_lst (pa_cons pe_str (pa_cons pe_str pa_nil))) (nomark _)))))) (pss_one (ps_ret pe_bl)) pss_nil)
      (pss_one (ps_ret (pe_cmpR (op_eqG (rcG_list (mon_ins (C := ga K "Work") (R := SameW K) (fun a b H H' e r => by obtain ⟨g, G, w1, w2⟩ := r; exact ⟨g, G, w1.up e, w2.up e⟩)) (eqG_ins Gq Mq.at_ Mq.fn bq pass0)) hr4)
        (pe_lc (own := [("_law_name", 3)]) (g := gName 3) (tt := tYes) rfl nd (pi_tup (pe_tup (pa_cons pe_str (pa_cons pe_str pa_nil)))) (blkOk_by (own := [("_law_name", 3)]) (N := n_law_shows) (sc := defScope s_law_shows) (by decide +kernel))
          (fun _ _ _ _ _ => pg_name (i := 3) nd rfl (Or.inl rfl)) (fun _ _ _ _ _ => pts_nil) (fun _ _ _ _ _ => pe_calM (pv 0) T.c_S (cal_shop_work T) hr2 pass0 (pa_cons (pv 3) pa_nil)))
        (pe_lc (own := [("_law_name", 3)]) (g := gName 3) (tt := tYes) rfl nd (pi_tup (pe_tup (pa_cons pe_str (pa_cons pe_str pa_nil)))) (blkOk_by (own := [("_law_name", 3)]) (N := n_law_shows) (sc := defScope s_law_shows) (by decide +kernel))
          (fun _ _ _ _ _ => pg_name (i := 3) nd rfl (Or.inl rfl)) (fun _ _ _ _ _ => pts_nil) (fun _ _ _ _ _ => pe_cal (cal_built T) hr7 pass0 (pa_cons (pe_dget hu (pv 1) (pv 3) (fun _ _ => rfl)) pa_nil))) (nomark _)))), ?_⟩
    obtain ⟨dx, fw, ow, oe, xs0, hp, S2, S3, S4, S5, S6⟩ := id S
    -- entries
    refine ⟨_, rfl, p, dx, _, rfl, hp, p, f, c, es, rfl, S, fun q1 xs1 H1 s1 e1 d1 => ?_⟩
    have shE := sh_ens eok
    refine ⟨_, rfl, .list (es.map dEn), .list (es.map dEn), .lst (SqL.of e1) (DtL.dp _ _ d1), .lst (SqL.of (s1 _ _ hae)) (DtL.dp _ _ (dae.up s1)), shE.shaped (by decide), shE.shaped (by decide), _, rfl, ?_⟩
    rw [SeqAt.eqv_refl _ shE.1]
    refine iteF ?_
    -- their number
    have lx : xs.length = es.length := by rw [dae.length, List.length_map]
    refine ⟨_, rfl, p, dx, _, rfl, s1 _ _ hp, p, f, c, es, rfl, S.up s1, by omega, ((es.length : Nat) : Int), rfl, ⟨by omega, by omega⟩, _, rfl, ae, xs, rfl, .inl (SqL.of (s1 _ _ hae)), rfl, _, rfl, ?_⟩
    rw [lx]
    refine iteNS rfl ?_
    -- names
    refine ⟨_, rfl, p, dx, _, rfl, s1 _ _ hp, p, f, c, es, rfl, S.up s1, fun q2 H2 s2 e2 => ?_⟩
    refine ⟨(by show 2 ≤ sizeLine; decide), fun q3 hq3 => ?_⟩
    have s3 := same1 hq3 (.lst [.str "one", .str "two"])
    have sh2 : Sh 1 (.list (twoN.map PyData.str)) := sh_strs (by decide +kernel)
    refine ⟨.list (twoN.map PyData.str), .list (twoN.map PyData.str), .lst (SqL.of (s3 _ _ e2)) (DtL.dp _ _ (dtl_strs twoN)), .lst (SqL.of upd_same) (DtL.dp _ _ (dtl_strs twoN)), sh2.shaped (by decide), sh2.shaped (by decide), _, rfl, ?_⟩
    rw [SeqAt.eqv_refl _ sh2.1]
    refine iteF ?_
    have sA := (s1.trans s2).trans s3
    generalize upd H2 q3 (.lst [.str "one", .str "two"]) = HA at sA
    clear s1 s2 s3 e1 d1 e2 hq3
    -- the works of the workshop
    refine ⟨(by show 2 ≤ sizeLine; decide), fun t1 ht1 => ?_⟩
    have s4 := sA.trans (same1 ht1 (.tup (twoN.map V.str)))
    have et1 : (upd HA t1 (.tup (twoN.map V.str))) t1 = some (.tup (twoN.map V.str)) := upd_same
    refine ⟨t1, rfl, ⟨_, SqT.of upd_same⟩, fun D1 hD1 => ?_⟩
    replace hD1 : (upd HA t1 (.tup (twoN.map V.str))) D1 = none := hD1
    show ∃ W : Nat → Nat → Hp → Prop, (∃ m, W 0 m (upd (upd HA t1 (.tup (twoN.map V.str))) D1 (.lst []))) ∧ _
    generalize upd HA t1 (.tup (twoN.map V.str)) = HB at s4 et1 hD1
    have n1 : t1 ≠ D1 := ne_of_none et1 hD1
    have hn2 : ∀ (i : Nat) (n : Str), twoN[i]? = some n → n = "one" ∨ n = "two" := fun i n e => by
      have := List.mem_of_getElem? e
      simpa [twoN] using this
    refine lc_it (walk_tup (K := K) (a := t1) (xs := twoN.map V.str)) (fun i H2 => But D1 HB H2 ∧ ∃ vs, H2 D1 = some (.lst vs) ∧ vs.length = i ∧ ∀ (j : Nat) (v : V) (n : Str), vs[j]? = some v → twoN[j]? = some n → WkAt K H2 v (getG c n)) ⟨(But.refl D1 HB).put _, [], upd_same, rfl, fun j v n e => by cases e⟩ (fun i H2 _ b => SqT.of (b.1 t1 _ n1 et1)) ?_ ?_
    · rintro i x H2 H3 hi ⟨b, vs, e, lv, wk⟩ ⟨rfl, ex⟩
      rw [List.getElem?_map] at ex
      obtain ⟨n, en, rfl⟩ := Option.map_eq_some_iff.mp ex
      have s5 : Same H H3 := s4.trans (b.same hD1)
      refine ⟨rfl, _, rfl, p, dx, _, rfl, s5 _ _ hp, lN (by decide +kernel) (by decide +kernel) (by decide +kernel), _, rfl, p, f, c, es, n, rfl, S.up s5, hn2 i n en, fun v Wv => ?_⟩
      have kw : Kd workO H3 (upd H3 D1 (.lst (vs ++ [v]))) := kd_upd e rfl _
      refine ⟨vs, e, by rw [lv]; exact small100 (by have : i < 2 := hi; omega), b.put _, vs ++ [v], upd_same, by simp [lv], fun j v' n' e1 e2 => ?_⟩
      rcases Nat.lt_or_ge j vs.length with hlt | hge
      · rw [List.getElem?_append_left hlt] at e1
        exact (wk j v' n' e1 e2).mvT (O.get n') kw
      · have hj : j = i := by
          have := (List.getElem?_eq_some_iff.mp e1).1
          rw [List.length_append] at this
          have : j < vs.length + 1 := this
          omega
        subst hj
        rw [List.getElem?_append_right hge, lv, Nat.sub_self] at e1
        cases e1
        rw [en] at e2
        cases e2
        exact Wv.mvT (O.get n) kw
    rintro H2 ⟨b, vs, e, lv, wk⟩
    have s5 : Same H H2 := s4.trans (b.same hD1)
    clear b
    -- the law's works
    refine ⟨(by show 2 ≤ sizeLine; decide), fun t2 ht2 => ?_⟩
    have s6 := same1 ht2 (.tup (twoN.map V.str))
    have et2 : (upd H2 t2 (.tup (twoN.map V.str))) t2 = some (.tup (twoN.map V.str)) := upd_same
    have e6 := s6 _ _ e
    refine ⟨t2, rfl, ⟨_, SqT.of upd_same⟩, fun D2 hD2 => ?_⟩
    replace hD2 : (upd H2 t2 (.tup (twoN.map V.str))) D2 = none := hD2
    show ∃ W : Nat → Nat → Hp → Prop, (∃ m, W 0 m (upd (upd H2 t2 (.tup (twoN.map V.str))) D2 (.lst []))) ∧ _
    generalize upd H2 t2 (.tup (twoN.map V.str)) = HC at s6 et2 hD2 e6
    have n2 : t2 ≠ D2 := ne_of_none et2 hD2
    have nDD : D1 ≠ D2 := ne_of_none e6 hD2
    refine lc_it (walk_tup (K := K) (a := t2) (xs := twoN.map V.str)) (fun i H3 => But D2 HC H3 ∧ ∃ us, H3 D2 = some (.lst us) ∧ us.length = i ∧ ∀ (j : Nat) (v : V) (n : Str), us[j]? = some v → twoN[j]? = some n → WkAt K H3 v (getG c n)) ⟨(But.refl D2 HC).put _, [], upd_same, rfl, fun j v n e => by cases e⟩ (fun i H3 _ b => SqT.of (b.1 t2 _ n2 et2)) ?_ ?_
    · rintro i x H3 H4 hi ⟨b, us, e', lu, wu⟩ ⟨rfl, ex⟩
      rw [List.getElem?_map] at ex
      obtain ⟨n, en, rfl⟩ := Option.map_eq_some_iff.mp ex
      have s7 : Same H H4 := (s5.trans s6).trans (b.same hD2)
      obtain ⟨vg, dg, WG⟩ := (W.up s7).get (hn2 i n en)
      refine ⟨rfl, _, rfl, _, rfl, d, vg, rfl, dg, vg, getG c n, rfl, WG, O.get n, fun v H5 s8 Wv0 => ?_⟩
      have Wv := Wv0.at
      have e8 := s8 _ _ e'
      have kw : Kd workO H5 (upd H5 D2 (.lst (us ++ [v]))) := kd_upd e8 rfl _
      refine ⟨us, e8, by rw [lu]; exact small100 (by have : i < 2 := hi; omega), (b.trans (but_of s8)).put _, us ++ [v], upd_same, by simp [lu], fun j v' n' e1 e2 => ?_⟩
      rcases Nat.lt_or_ge j us.length with hlt | hge
      · rw [List.getElem?_append_left hlt] at e1
        exact ((wu j v' n' e1 e2).up s8).mvT (O.get n') kw
      · have hj : j = i := by
          have := (List.getElem?_eq_some_iff.mp e1).1
          rw [List.length_append] at this
          have : j < us.length + 1 := this
          omega
        subst hj
        rw [List.getElem?_append_right hge, lu, Nat.sub_self] at e1
        cases e1
        rw [en] at e2
        cases e2
        exact Wv.mvT (O.get n) kw
    rintro H3 ⟨b, us, e', lu, wu⟩
    have s7 : Same H2 H3 := s6.trans (b.same hD2)
    have e9 : H3 D1 = some (.lst vs) := b D1 _ nDD e6
    refine ⟨⟨D1, D2, vs, us, rfl, rfl, e9, e', ⟨by rw [lv, lu], fun i x y e1 e2 => ?_⟩⟩, fun H' e => k H' ((s5.trans s7).trans e)⟩
    have hi : i < 2 := by
      have := (List.getElem?_eq_some_iff.mp e1).1
      rw [lv] at this
      exact this
    obtain ⟨n, en⟩ : ∃ n, twoN[i]? = some n := ⟨twoN[i]'hi, List.getElem?_eq_getElem hi⟩
    have w1 := (wk i x n e1 en).up s7
    have w2 := wu i y n e2 en
    obtain ⟨a1, dx1, l1, h1, r1, ml1, mh1, mr1, rfl, ea1, _⟩ := id w1
    obtain ⟨a2, dx2, l2, h2, r2, ml2, mh2, mr2, rfl, ea2, _⟩ := id w2
    exact ⟨a1, a2, dx1, dx2, _, _, rfl, rfl, ea1, ea2, getG c n, O.get n, w1, w2⟩) (fun _ _ _ _ _ _ us hl => match us, hl with | [_, _, _], _ => rfl)
end
end K7

set_option Elab.async false
set_option linter.all false
set_option maxRecDepth 100000
set_option maxHeartbeats 4000000
/-! The first works of the law. -/
namespace K7
open PySem PySem.Spec PyProof.Rows L2
def PQY : List Str := signs "pqrstuvwxy"
def ALL : List Str := signs "pqrstuvwxyz"
theorem subset_len : ∀ (l L : List Str), l.Nodup → (∀ n ∈ l, n ∈ L) → l.length ≤ L.length
  | [], _, _, _ => Nat.zero_le _
  | x :: l, L, nd, h => by
    rw [List.nodup_cons] at nd
    have hx : x ∈ L := h x (by simp)
    have h1 := subset_len l (L.erase x) nd.2 fun n hn => (List.mem_erase_of_ne (fun e : n = x => nd.1 (by rw [← e]; exact hn))).mpr (h n (List.mem_cons_of_mem _ hn))
    rw [List.length_erase_of_mem hx] at h1
    have h2 : 0 < L.length := List.length_pos_of_mem hx
    rw [List.length_cons]
    omega
def wAUP : List Str := ["a", "up", "P"]
def rAUP : Rp := ((true, wAUP), (1, 3))
theorem rope_aup {g : Gv} (h1 : ("a" : Str) ∈ keys g.loads) (h2 : ("P" : Str) ∈ keys g.fixed) : RopeB (pts g) rAUP = true := by
  have e0 : altS 0 wAUP = (["a", "P"] : List Str) := by decide +kernel
  have e1 : altS 1 wAUP = (["up"] : List Str) := by decide +kernel
  unfold RopeB PathB rAUP
  show (true && (decide (wAUP.length % 2 = 1) && (decide (3 ≤ wAUP.length) && (decide (wAUP.length ≤ 23) && ((altS 0 wAUP).all (fun x => decide (x ∈ pts g)) && (altS 1 wAUP).all (fun x => decide (x ∈ DIRS))))))) && decide (FrOk (1, 3)) = true
  rw [e0, e1, List.all_cons, List.all_cons, List.all_nil, List.all_cons, List.all_nil]
  rw [decide_eq_true (show ("a" : Str) ∈ pts g from List.mem_append_left _ h1), decide_eq_true (show ("P" : Str) ∈ pts g from List.mem_append_right _ h2)]
  decide +kernel
/-- the ropes while the law adds some -/
structure RI (g : Gv) (i : Nat) (m : List (Str × Rp)) : Prop where
  nd : (keys m).Nodup
  sub : ∀ n ∈ keys m, n ∈ ALL
  has : ∀ n ∈ PQY.take i, n ∈ keys m
  ok : ∀ x ∈ m, NameB x.1 = true ∧ RopeB (pts g) x.2 = true
theorem keys_addR (m : List (Str × Rp)) (n : Str) (x : Rp) : keys (addR m n x) = if n ∈ keys m then keys m else keys m ++ [n] := by
  unfold addR
  split
  · rfl
  · unfold keys
    rw [List.map_append]
    rfl
theorem RI.len {g : Gv} {i : Nat} {m : List (Str × Rp)} (h : RI g i m) : m.length ≤ 11 := by
  have h1 := subset_len (keys m) ALL h.nd h.sub
  have h2 : (keys m).length = m.length := List.length_map ..
  rw [show ALL.length = 11 by decide +kernel] at h1
  omega
theorem RI.step {g : Gv} {i : Nat} {m : List (Str × Rp)} {n : Str} (h : RI g i m) (hn : PQY[i]? = some n) (r : RopeB (pts g) rAUP = true) : RI g (i + 1) (addR m n rAUP) := by
  have hm : n ∈ PQY := List.mem_of_getElem? hn
  have pq : ∀ n ∈ PQY, n ∈ ALL ∧ NameB n = true := by decide +kernel
  refine ⟨?_, ?_, ?_, ?_⟩
  · rw [keys_addR]
    split
    · exact h.nd
    · rename_i hh
      exact nd_snoc h.nd hh
  · rw [keys_addR]
    split
    · exact h.sub
    · intro x hx
      rcases List.mem_append.mp hx with hx | hx
      · exact h.sub x hx
      · rw [List.mem_singleton.mp hx]
        exact (pq n hm).1
  · rw [keys_addR, List.take_add_one, hn]
    intro x hx
    rcases List.mem_append.mp hx with hx | hx
    · have := h.has x hx
      split
      · exact this
      · exact List.mem_append_left _ this
    · have : x = n := by simpa using hx
      subst this
      split
      · assumption
      · simp
  · intro x hx
    unfold addR at hx
    split at hx
    · exact h.ok x hx
    · rcases List.mem_append.mp hx with hx | hx
      · exact h.ok x hx
      · rw [List.mem_singleton.mp hx]
        exact ⟨(pq n hm).2, r⟩
theorem RI.start {g : Gv} (N : GvNew g) : RI g 0 g.ropes := by
  have rs : ∀ n ∈ RST, n ∈ ALL := by decide +kernel
  exact ⟨N.ok.nr, fun n hn => rs n (N.r n hn), (fun n hn => by cases hn), N.ok.okr⟩
theorem RI.done {g : Gv} {m : List (Str × Rp)} {x : Str} (G : GvOk g) (h : RI g 10 m) (hx : x ∈ (["p", "q", "y"] : List Str)) : x ∈ keys m ∧ GvOk ⟨g.loads, dropN m x, g.fixed⟩ := by
  have p3 : ∀ x ∈ (["p", "q", "y"] : List Str), x ∈ PQY.take 10 ∧ (ALL.erase x).length = 10 := by decide +kernel
  obtain ⟨h1, h2⟩ := p3 x hx
  have hk := h.has x h1
  refine ⟨hk, ⟨G.nl, h.nd.sublist keys_drop_sub, G.nf, G.l1, G.l8, G.f8, ?_, G.okl, G.okf, fun p hp => h.ok p (List.mem_filter.mp hp).1⟩⟩
  have h3 := subset_len (keys (dropN m x)) (ALL.erase x) (h.nd.sublist keys_drop_sub) fun n hn => by
    obtain ⟨p, hp, rfl⟩ := List.mem_map.mp hn
    obtain ⟨hp1, hp2⟩ := List.mem_filter.mp hp
    have hne : ¬ p.1 = x := by simpa using hp2
    exact (List.mem_erase_of_ne hne).mpr (h.sub _ (List.mem_map_of_mem hp1))
  rw [h2] at h3
  have h4 : (keys (dropN m x)).length = (dropN m x).length := List.length_map ..
  show (dropN m x).length ≤ 10
  omega
/-! ### what is given, with its addresses -/
structure GR (H : Hp) (a l r f : Addr) (kl kr kf : List (Key × V)) (g : Gv) : Prop where
  ea : H a = some (.lst [.ref l, .ref r, .ref f])
  el : H l = some (.dK kl)
  er : H r = some (.dK kr)
  ef : H f = some (.dK kf)
  rl : KvR dFr H kl g.loads
  rr : KvR dRp H kr g.ropes
  rf : KvR dFr H kf g.fixed
theorem GR.gv {H : Hp} {a l r f : Addr} {kl kr kf : List (Key × V)} {g : Gv} (R : GR H a l r f kl kr kf g) : GvAt H (.ref a) g := ⟨a, l, r, f, rfl, R.ea, ⟨kl, R.el, R.rl⟩, ⟨kr, R.er, R.rr⟩, ⟨kf, R.ef, R.rf⟩⟩
theorem GR.mv {H H' : Hp} {a l r f : Addr} {kl kr kf : List (Key × V)} {g : Gv} (R : GR H a l r f kl kr kf g) (k : Kd midO H H') : GR H' a l r f kl kr kf g := ⟨k _ _ R.ea rfl, k _ _ R.el rfl, k _ _ R.er rfl, k _ _ R.ef rfl, R.rl.mv k.flat, R.rr.mv k.flat, R.rf.mv k.flat⟩
theorem GR.up {H H' : Hp} {a l r f : Addr} {kl kr kf : List (Key × V)} {g : Gv} (R : GR H a l r f kl kr kf g) (k : Same H H') : GR H' a l r f kl kr kf g := R.mv (kd_of k)
theorem GR.but {H H' : Hp} {a l r f x : Addr} {kl kr kf ks : List (Key × V)} {g : Gv} (R : GR H a l r f kl kr kf g) (b : But x H H') (e : H x = some (.dK ks)) (nl : l ≠ x) (nr : r ≠ x) (nf : f ≠ x) : GR H' a l r f kl kr kf g := by
  have k : Kd flatO H H' := kd_but1 b e rfl
  have na : a ≠ x := fun z => by subst z; rw [R.ea] at e; cases e
  exact ⟨b _ _ na R.ea, b _ _ nl R.el, b _ _ nr R.er, b _ _ nf R.ef, R.rl.mv k, R.rr.mv k, R.rf.mv k⟩
theorem WkAt.put {K : PySem.W.Frag} {H0 H : Hp} {v : V} {g : Gv} {p : Addr} {ks ks' : List (Key × V)} (W : WkN K H0 H v g) (n : H0 p ≠ none) (e : H p = some (.dK ks)) : WkAt K (upd H p (.dK ks')) v g := by
  obtain ⟨a, dx, l, h, r, ml, mh, mr, rfl, ea, ⟨kl, el, al⟩, ⟨kh, eh, ah⟩, ⟨kr, er, ar⟩, p1, p2, p3, f1, f2, f3⟩ := W
  have k : Kd flatO H (upd H p (.dK ks')) := kd_upd e rfl _
  have na : a ≠ p := fun z => by subst z; rw [ea] at e; cases e
  have nl : l ≠ p := fun z => n (z ▸ f1)
  have nh : h ≠ p := fun z => n (z ▸ f2)
  have nr : r ≠ p := fun z => n (z ▸ f3)
  exact ⟨a, dx, l, h, r, ml, mh, mr, rfl, by rw [upd_ne na]; exact ea, ⟨kl, by rw [upd_ne nl]; exact el, al.mv k⟩, ⟨kh, by rw [upd_ne nh]; exact eh, ah.mv k⟩, ⟨kr, by rw [upd_ne nr]; exact er, ar.mv k⟩, p1, p2, p3⟩
theorem WkN.up {K : PySem.W.Frag} {H0 H H' : Hp} {v : V} {g : Gv} (W : WkN K H0 H v g) (s : Same H H') : WkN K H0 H' v g := by
  obtain ⟨a, dx, l, h, r, ml, mh, mr, e, ea, h1, h2, h3, p⟩ := W
  exact ⟨a, dx, l, h, r, ml, mh, mr, e, s _ _ ea, h1.up s, h2.up s, h3.up s, p⟩
theorem replay_ok : ∀ {es : List En} {s c : S2}, S2Ok s → replay s es = .ok c → S2Ok c
  | [], _, _, O, e => by cases e; exact O
  | en :: es, s, c, O, e => by
    have e' : (match dueS s en with | some er => Except.error er | none => replay (madeS s en) es) = .ok c := e
    cases q : dueS s en with
    | some er => rw [q] at e'; cases e'
    | none =>
      rw [q] at e'
      exact replay_ok (madeS_ok O q) e'
theorem sh_er {c : S2} {en : En} {er : Er} (h : dueS c en = some er) (eo : EnOk en) : Sh 7 (dEr er) := by
  have hs := eo.2.2
  unfold dueS at h
  generalize getG c en.nm = g at h
  have str2 : ∀ (x y : Str), PyData.strOk x = true → PyData.strOk y = true → Sh 7 (.tuple [.str x, .str y]) := fun x y hx hy => Sh.mono (m := 1) (Sh.tup fun d hd => by
    simp only [List.mem_cons, List.not_mem_nil, or_false] at hd
    rcases hd with rfl | rfl
    · exact .str hx
    · exact .str hy) (by decide)
  cases en with
  | load u n z q =>
    have hz : PyData.strOk z = true := (hs.inv (d := .str z) (by simp)).strOk
    have h' : (if z ∈ keys g.loads then (if LdOk q then none else some (Er.number q)) else some (Er.unknown z)) = some er := h
    split at h'
    · split at h'
      · cases h'
      · cases h'
        exact Sh.mono (m := 2) (Sh.tup fun d hd => by
          simp only [List.mem_cons, List.not_mem_nil, or_false] at hd
          rcases hd with rfl | rfl
          · exact .str (by decide +kernel)
          · exact .fr q) (by decide)
    · cases h'
      exact str2 _ _ (by decide +kernel) hz
  | drop u n z =>
    have hz : PyData.strOk z = true := (hs.inv (d := .str z) (by simp)).strOk
    have h' : (if z ∈ keys g.ropes then none else some (Er.unknown z)) = some er := h
    split at h'
    · cases h'
    · cases h'
      exact str2 _ _ (by decide +kernel) hz
  | rope u n z b ws q =>
    have hz : PyData.strOk z = true := (hs.inv (d := .str z) (by simp)).strOk
    have h' : (if NameB z = true then (if RopeB (pts g) ((b, ws), q) = true then (if (putN g.ropes z ((b, ws), q)).length ≤ 10 then none else some Er.limit) else some (.rope z)) else some (.name z)) = some er := h
    split at h'
    · split at h'
      · split at h'
        · cases h'
        · cases h'
          exact Sh.mono (m := 1) (Sh.tup fun d hd => by
            simp only [List.mem_cons, List.not_mem_nil, or_false] at hd
            rcases hd with rfl | rfl
            · exact .str (by decide +kernel)
            · exact .int _) (by decide)
      · cases h'
        exact str2 _ _ (by decide +kernel) hz
    · cases h'
      exact str2 _ _ (by decide +kernel) hz
theorem sh_replay : ∀ {es : List En} {s : S2} {er : Er}, (∀ en ∈ es, EnOk en) → replay s es = .error er → Sh 7 (dEr er)
  | [], _, _, _, e => by cases e
  | en :: es, s, er, h, e => by
    have e' : (match dueS s en with | some er => Except.error er | none => replay (madeS s en) es) = .error er := e
    cases q : dueS s en with
    | some er' =>
      rw [q] at e'
      cases e'
      exact sh_er q (h en (by simp))
    | none =>
      rw [q] at e'
      exact sh_replay (fun x hx => h x (List.mem_cons_of_mem _ hx)) e'
theorem sh_nothing : Sh 7 (dEr .nothing) := Sh.mono (m := 1) (Sh.tup fun d hd => by
  simp only [List.mem_cons, List.not_mem_nil, or_false] at hd
  rcases hd with rfl | rfl
  · exact .str (by decide +kernel)
  · exact .non) (by decide)
theorem sh_done : Sh 7 dDone := Sh.mono (m := 1) (Sh.tup fun d hd => by
  simp only [List.mem_cons, List.not_mem_nil, or_false] at hd
  rcases hd with rfl | rfl
  · exact .str (by decide +kernel)
  · exact .non) (by decide)
theorem sh_undone {en : En} (eo : EnOk en) : Sh 7 (.tuple [.str "entry", dEn en]) := Sh.mono (m := 6) (Sh.tup fun d hd => by
  simp only [List.mem_cons, List.not_mem_nil, or_false] at hd
  rcases hd with rfl | rfl
  · exact .str (by decide +kernel)
  · exact eo.2.2) (by decide)
theorem mem_without {es : List En} {i : Nat} {en : En} (h : en ∈ without es i) : en ∈ es := by
  unfold without at h
  rcases List.mem_append.mp h with h | h
  · exact List.mem_of_mem_take h
  · exact List.mem_of_mem_drop h
theorem len_without {es : List En} {i : Nat} : (without es i).length ≤ es.length := by
  unfold without
  rw [List.length_append, List.length_take, List.length_drop]
  omega
end K7

set_option Elab.async false
set_option linter.all false
set_option maxRecDepth 100000
set_option maxHeartbeats 4000000
/-! The law. -/
namespace K7
open PySem PySem.Spec PyProof.Rows L2
def spLaw (K : PySem.W.Frag) : Sp := fun vs H Q _ => ∃ (a : Addr) (ns : List Int), vs = [.ref a] ∧ SqL K H a (ns.map V.int) ∧ ns.length ≤ 63 ∧ ∀ H', Q (.bl true) H'
/-- the law's record and the workshop -/
structure LI (K : PySem.W.Frag) (H0 H : Hp) (p0 p d ae : Addr) (f c : S2) (es : List En) (xs : List V) : Prop where
  s : Same H0 H
  f0 : StA H p0 f
  fo : S2Ok f
  c0 : StA H d c
  co : S2Ok c
  sh : ShAt K H p f c es
  ea : H ae = some (.lst xs)
  ex : DtL H xs (es.map dEn)
  eo : ∀ en ∈ es, EnOk en ∧ EnFine en
section
variable {P : Program} {w : World} {K : PySem.W.Frag} {mg : Str → Option Value} {base : Heap}
theorem ok_law (T : TX P K mg) {f : Addr} {fd : FuncData} (F : Fun K "law" "law" s_law f fd) : FnOk P w K mg base CX0 13 f fd ["_law_script"] (spLaw K) := by
  refine F.ok c_law (fun vs H Q E h => ?_) (fun cdv A outer s H vs Q E hr h => ?_)
  · obtain ⟨a, ns, rfl, _⟩ := h
    rfl
  · obtain ⟨a, ns, rfl, hS, l63, k⟩ := h
    have nd := c_law.nd
    have hu := hu_of hr
    have hu0 := hr.units
    have hr1 : Room 1 _ := hr.mono (by decide)
    have hr2 : Room 2 _ := hr.mono (by decide)
    have hr3 : Room 3 _ := hr.mono (by decide)
    have hr4 : Room 4 _ := hr.mono (by decide)
    have hr6 : Room 6 _ := hr.mono (by decide)
    have hr7 : Room 7 _ := hr.mono (by decide)
    have hr9 : Room 9 _ := hr.mono (by decide)
    have hr11 : Room 11 _ := hr.mono (by decide)
    obtain ⟨fdS, FS⟩ := T.i_S
    have DR := cal_draw (P := P) (w := w) (base := base) T
    refine ⟨_, pss_cons (ps_set (i := 1) nd rfl (Or.inl rfl) (pe_cal (cal_pool T) hr1 pass0 (pa_cons (pv 0) (pa_cons pe_int pa_nil))))
      (pss_cons (ps_set (i := 2) nd rfl (Or.inl rfl) (pe_disp (pps_cons pe_str (pe_cal (cal_given T) hr6 pass0 (pa_cons (pv 1) (pa_cons pe_int (pa_cons pe_int pa_nil)))) (pps_cons pe_str (pe_cal (cal_given T) hr6 pass0 (pa_cons (pv 1) (pa_cons pe_int (pa_cons pe_int pa_nil)))) pps_nil)) (by rfl) (by rfl) (fun z => by cases z) (by decide)))
      (pss_cut (ps_if (pt_cmpR op_eq (pe_cal DR hr1 pass0 (pa_cons (pv 1) (pa_cons pe_int pa_nil))) pe_int (nomark _))
        (pss_cons (ps_for PassesOwn.never rfl (pi_str pe_str) (pg_name (i := 3) nd rfl (Or.inl rfl))
          (pss_one (ps_expr (pe_cal (cal_add_rope T) hr1 pass0 (pa_cons (pe_dget hu (pv 2) pe_str (fun _ _ => rfl)) (pa_cons (pv 3) (pa_cons (pe_tup (pa_cons pe_str (pa_cons pe_str (pa_cons pe_str pa_nil)))) pa_nil)))))))
        (pss_one (ps_expr (pe_dpop1 (pe_ix ix_list (pe_dget hu (pv 2) pe_str (fun _ _ => rfl)) pe_int (fun _ _ => rfl)) (pe_ix ix_list (pe_lst (pa_cons pe_str (pa_cons pe_str (pa_cons pe_str pa_nil)))) (pe_cal DR hr1 pass0 (pa_cons (pv 1) (pa_cons pe_int pa_nil))) (fun _ _ => rfl)) ⟨rfl, rfl, rfl, rfl⟩)))) pss_nil)
      (pss_cons (ps_set (i := 4) nd rfl (Or.inl rfl) (pe_make T.mk_S (ok_initS T FS) hr4 (by rfl) T.g_S (FS.binds fun _ _ _ _ _ _ us hl => match us, hl with | [_, _], _ => rfl) .nil pass0
        (pa_cons (pe_disp (pps_cons pe_str (pe_cal (cal_built T) hr7 pass0 (pa_cons (pe_dget hu (pv 2) pe_str (fun _ _ => rfl)) pa_nil)) (pps_cons pe_str (pe_cal (cal_built T) hr7 pass0 (pa_cons (pe_dget hu (pv 2) pe_str (fun _ _ => rfl)) pa_nil)) pps_nil)) (by rfl) (by rfl) (fun z => by cases z) (by decide)) pa_nil)))
      (pss_cons (ps_par (i := 5) (j := 6) (by rfl) nd rfl rfl (by decide) rfl rfl (pa_cons (pv 2) (pa_cons (pe_lst pa_nil) pa_nil)) (by rfl))
      (pss_cons (ps_for PassesOwn.never rfl (pi_range2 rfl T.f_range (pa_cons pe_int (pa_cons (pe_callB (call_max2 rfl) (by rfl) T.f_max (by decide +kernel) (pa_cons pe_int (pa_cons (pe_callB (call_min2 rfl) (by rfl) T.f_min (by decide +kernel) (pa_cons (pe_callB call_len_seq (by rfl) T.f_len PySem.boot_len (pa_cons (pv 0) pa_nil)) (pa_cons pe_int pa_nil))) pa_nil))) pa_nil))) (pg_name (i := 7) nd rfl (Or.inl rfl))
        (pss_cut (ps_set (i := 8) nd rfl (Or.inl rfl) (pe_cal (cal_entry T) hr4 pass0 (pa_cons (pe_cal (cal_pool T) hr1 pass0 (pa_cons (pv 0) (pa_cons (pv 7) pa_nil))) (pa_cons (pv 5) pa_nil))))
        (pss_cut (ps_if (pt_cmpR op_eq (pe_ix ix_tup (pv 8) pe_int (fun _ _ => rfl)) pe_str (nomark _))
          (pss_cons (ps_asg (pe_cal (cal_undone T) hr3 pass0 (pa_cons (pv 2) (pa_cons (pv 6) (pa_cons (pe_ix ix_tup (pv 8) pe_int (fun _ _ => rfl)) pa_nil)))) (pg_lst rfl (pgs_cons (pg_name (i := 9) nd rfl (Or.inl rfl)) (pgs_cons (pg_name (i := 10) nd rfl (Or.inl rfl)) (pgs_cons (pg_name (i := 11) nd rfl (Or.inl rfl)) pgs_nil)))))
          (pss_one (ps_if (pt_cmp (pc_notN (pv 10))) (pss_one (ps_par (i := 5) (j := 6) (by rfl) nd rfl rfl (by decide) rfl rfl (pa_cons (pv 11) (pa_cons (pv 10) pa_nil)) (by rfl))) pss_nil)))
          (pss_cons (ps_set (i := 9) nd rfl (Or.inl rfl) (pe_cal (cal_due T) hr2 pass0 (pa_cons (pv 5) (pa_cons (pv 8) pa_nil))))
          (pss_one (ps_if (pt_cmp (pc_isN (pv 9))) (pss_one (ps_par3 (i := 9) (j := 5) (l := 6) rfl nd rfl rfl rfl (by decide) (by decide) (by decide) rfl rfl rfl
            (pa_cons (pe_tup (pa_cons pe_str (pa_cons pe_non pa_nil))) (pa_cons (pe_cal (cal_made_entry T) hr1 pass0 (pa_cons (pv 5) (pa_cons (pv 8) pa_nil))) (pa_cons (pe_op op_cat (pv 6) (pe_lst (pa_cons (pv 8) pa_nil))) pa_nil))) (by rfl))) pss_nil))))
        (pss_one (ps_if (PW.pt (pw_or (pt_cmpR (op_neD hu0) (pe_cal (cal_done T) hr11 pass0 (pa_cons (pv 4) (pa_cons (pv 8) pa_nil))) (pv 9) (nomark _)) (pw_or1 (pt_not (pt_val (pe_cal (cal_shows T) hr9 pass0 (pa_cons (pv 4) (pa_cons (pv 5) (pa_cons (pv 6) pa_nil))))))))) (pss_one (ps_ret pe_bl)) pss_nil)))))
      (pss_one (ps_ret pe_bl))))))), ?_⟩
    -- the first pool
    refine ⟨_, rfl, a, ns, 0, rfl, hS, l63, by decide, by decide, fun q H1 s1 nq pl1 => ?_⟩
    -- the given works
    intro p hp
    have npq : p ≠ q := fun z => by subst z; exact pl1.some hp
    have sP := same1 hp (.dK [])
    refine ⟨_, rfl, q, 9, rfl, pl1.up sP, by decide, by decide, fun a1 l1 r1 f1 g1 H2 t2 pl2 ea1 D1 D2 D3 na1 nl1 nr1 nf1 n_lr1 n_fr1 N1 => ?_⟩
    obtain ⟨kl1, el1, al1⟩ := D1
    obtain ⟨kr1, er1, ar1⟩ := D2
    obtain ⟨kf1, ef1, af1⟩ := D3
    have R1 : GR H2 a1 l1 r1 f1 kl1 kr1 kf1 g1 := ⟨ea1, el1, er1, ef1, al1, ar1, af1⟩
    clear ea1 el1 er1 ef1 al1 ar1 af1
    refine ⟨_, rfl, q, 4, rfl, pl2, by decide, by decide, fun a2 l2 r2 f2 g2 H3 t3 pl3 ea2 D1 D2 D3 na2 nl2 nr2 nf2 n_lr2 n_fr2 N2 => ?_⟩
    obtain ⟨kl2, el2, al2⟩ := D1
    obtain ⟨kr2, er2, ar2⟩ := D2
    obtain ⟨kf2, ef2, af2⟩ := D3
    have R2 : GR H3 a2 l2 r2 f2 kl2 kr2 kf2 g2 := ⟨ea2, el2, er2, ef2, al2, ar2, af2⟩
    clear ea2 el2 er2 ef2 al2 ar2 af2
    have ePP : (upd H1 p (.dK [])) p = some (.dK []) := upd_same
    have ePP2 : H2 p = some (.dK []) := kd_but t2 (pl1.up sP).mid _ _ ePP rfl
    have ePP3 : H3 p = some (.dK []) := kd_but t3 pl2.mid _ _ ePP2 rfl
    have R1' := R1.mv (kd_but t3 pl2.mid)
    have np_of : ∀ {x : Addr}, (upd H1 p (.dK [])) x = none → x ≠ p := fun h z => by subst z; rw [upd_same] at h; cases h
    have np_of2 : ∀ {x : Addr}, H2 x = none → x ≠ p := fun h z => by subst z; rw [ePP2] at h; cases h
    have nr1_of : ∀ {x : Addr}, H2 x = none → x ≠ r1 := fun h z => by subst z; rw [R1.er] at h; cases h
    have nprq : p ≠ r1 := (np_of nr1).symm
    refine ⟨ePP3, [((Sum.inr "one" : Key), .ref a1), ((Sum.inr "two" : Key), .ref a2)], rfl, (by show 2 ≤ 15; decide), ?_⟩
    rw [merge_nil (by show ([(Sum.inr "one" : Key), Sum.inr "two"] : List Key).Nodup; decide +kernel)]
    have s0 : Same H H3 := by
      have b : But q H H3 := ((but_of (s1.trans sP)).trans t2).trans t3
      exact b.same nq
    have sH4 : Same H (upd H3 p (.dK [((Sum.inr "one" : Key), .ref a1), ((Sum.inr "two" : Key), .ref a2)])) := fun c o e => by
      rw [upd_ne (ne_of_none (s1 _ _ e) hp)]
      exact s0 _ _ e
    have bP : But p H3 (upd H3 p (.dK [((Sum.inr "one" : Key), .ref a1), ((Sum.inr "two" : Key), .ref a2)])) := (But.refl p H3).put _
    have Q1 := R1'.but bP ePP3 (np_of nl1) (np_of nr1) (np_of nf1)
    have Q2 := R2.but bP ePP3 (np_of2 nl2) (np_of2 nr2) (np_of2 nf2)
    have eP4 : (upd H3 p (.dK [((Sum.inr "one" : Key), .ref a1), ((Sum.inr "two" : Key), .ref a2)])) p = some (.dK [((Sum.inr "one" : Key), .ref a1), ((Sum.inr "two" : Key), .ref a2)]) := upd_same
    have pl4 : Pl (upd H3 p (.dK [((Sum.inr "one" : Key), .ref a1), ((Sum.inr "two" : Key), .ref a2)])) q := by
      obtain ⟨i', j', e, z⟩ := pl3
      exact ⟨i', j', by rw [upd_ne npq.symm]; exact e, z⟩
    generalize upd H3 p (.dK [((Sum.inr "one" : Key), .ref a1), ((Sum.inr "two" : Key), .ref a2)]) = H4 at sH4 Q1 Q2 eP4 pl4
    have nl2r := nr1_of nl2
    have nr2r := nr1_of nr2
    have nf2r := nr1_of nf2
    have fr1 : H r1 = none := by
      cases hh : H r1 with
      | none => rfl
      | some o => rw [upd_ne nprq.symm, s1 _ _ hh] at nr1; cases nr1
    clear bP R1 R2 R1' ePP ePP2 ePP3 t2 t3 pl2 pl3 s0 sP s1 hp np_of np_of2 nr1_of na1 na2 nl1 nr1 nf1 nl2 nr2 nf2 pl1
    -- ten ropes, perhaps
    refine ⟨fun σ H5 => ∃ z3 g, σ = [some (.ref a), some (.ref q), some (.ref p), z3, none, none, none, none, none, none, none, none] ∧ Same H H5 ∧ StA H5 p (g, g2) ∧ GvOk g, ?_, ?_⟩
    · refine ⟨_, rfl, q, 2, rfl, pl4, by decide, by decide, fun rr H5 ra rb t5 pl5 => ⟨rfl, _, rfl, ite2 (fun _ => ?_) (fun _ => ?_)⟩⟩
      case refine_2 =>
        have km : Kd midO H4 H5 := kd_but t5 pl4.mid
        have b5 : But q H H5 := (but_of sH4).trans t5
        exact ⟨none, g1, rfl, b5.same nq, ⟨_, _, km _ _ eP4 rfl, (Q1.mv km).gv, (Q2.mv km).gv⟩, N1.ok⟩
      have km : Kd midO H4 H5 := kd_but t5 pl4.mid
      have b5 : But q H H5 := (but_of sH4).trans t5
      have ra1 := rope_aup N1.a N1.p
      refine ⟨_, rfl, for_it walk_str (fun i σ H6 => ∃ z3 kr m, σ = [some (.ref a), some (.ref q), some (.ref p), z3, none, none, none, none, none, none, none, none] ∧ Same H H6 ∧ Pl H6 q ∧ H6 p = some (.dK [((Sum.inr "one" : Key), .ref a1), ((Sum.inr "two" : Key), .ref a2)]) ∧ GR H6 a1 l1 r1 f1 kl1 kr kf1 ⟨g1.loads, m, g1.fixed⟩ ∧ GR H6 a2 l2 r2 f2 kl2 kr2 kf2 g2 ∧ RI g1 i m)
        ⟨none, kr1, g1.ropes, rfl, b5.same nq, pl5, km _ _ eP4 rfl, Q1.mv km, Q2.mv km, RI.start N1⟩ (fun _ _ _ _ _ => True.intro) ?_ ?_⟩
      · rintro i x σ H6 H7 hi ⟨z3, kr, m, rfl, s6, pl6, e6, G1, G2, ri⟩ ⟨rfl, c, ec, rfl⟩
        obtain ⟨nm, enm⟩ : ∃ nm, PQY[i]? = some nm := ⟨PQY[i]'hi, List.getElem?_eq_getElem _⟩
        have enc : nm = ⟨#[c]⟩ := sign_of (z := "pqrstuvwxy") (i := i) enm ec
        subst enc
        have dg := DGet.k (k := (Sum.inr "one" : Key)) e6
        rw [val2 (.inl rfl), if_pos rfl] at dg
        refine ⟨_, rfl, p, .ref a1, rfl, dg, _, rfl, (by show 3 ≤ sizeLine; decide), fun t ht => ?_⟩
        have s7 := same1 ht (.tup (wAUP.map V.str))
        have G1' := G1.up s7
        have G2' := G2.up s7
        refine ⟨a1, l1, r1, f1, t, ⟨#[c]⟩, kr, m, wAUP, rfl, G1'.ea, G1'.er, G1'.rr, ri.nd, Nat.le_trans ri.len (by decide), upd_same, fun H8 kr' b8 e8 rr8 => ?_⟩
        have k8 : Kd flatO _ H8 := kd_but1 b8 G1'.er rfl
        have na1r : a1 ≠ r1 := fun z => by have := G1'.ea; rw [z, G1'.er] at this; cases this
        have nqr : q ≠ r1 := fun z => by have := (pl6.up s7).mid _ (by rw [z]; exact G1'.er); cases this
        refine ⟨_, kr', addR m ⟨#[c]⟩ rAUP, rfl, ?_, ?_, b8 _ _ nprq (s7 _ _ e6), ⟨b8 _ _ na1r G1'.ea, b8 _ _ n_lr1 G1'.el, e8, b8 _ _ n_fr1 G1'.ef, G1'.rl.mv k8, rr8, G1'.rf.mv k8⟩, G2'.but b8 G1'.er nl2r nr2r nf2r, ri.step enm ra1⟩
        · intro c' o e
          exact b8 _ _ (ne_of_none e fr1) (s7 _ _ (s6 _ _ e))
        · obtain ⟨i', j', e, z⟩ := pl6.up s7
          exact ⟨i', j', b8 _ _ nqr e, z⟩
      · rintro σ H6 ⟨z3, kr, m, rfl, s6, pl6, e6, G1, G2, ri⟩
        -- one of them goes
        have dg := DGet.k (k := (Sum.inr "one" : Key)) e6
        rw [val2 (.inl rfl), if_pos rfl] at dg
        refine ⟨_, rfl, p, .ref a1, rfl, dg, a1, _, _, _, rfl, rfl, SqL.of G1.ea, rfl, r1, rfl, .inl ⟨kr, .inl G1.er⟩, (by show 3 ≤ sizeLine; decide), fun t ht => ?_⟩
        have s7 := same1 ht (.lst ((["p", "q", "y"] : List Str).map V.str))
        refine ⟨_, rfl, q, 3, rfl, pl6.up s7, by decide, by decide, fun r8 H8 a8 b8 t8 pl8 => ?_⟩
        have k8 : Kd midO _ H8 := kd_but t8 (pl6.up s7).mid
        obtain ⟨x, hx, ex⟩ := strs_pick (ns := ["p", "q", "y"]) a8 b8
        have el8 : H8 t = some (.lst ((["p", "q", "y"] : List Str).map V.str)) := k8.flat _ _ upd_same (strs_flat _)
        obtain ⟨hk, Gk⟩ := RI.done N1.ok ri hx
        have G1' := (G1.up s7).mv k8
        have G2' := (G2.up s7).mv k8
        obtain ⟨y, ey⟩ := look_some hk
        obtain ⟨v, ev, _⟩ := G1'.rr.val ey
        refine ⟨t, _, _, _, rfl, rfl, SqL.of el8, ex, kr, (Sum.inr x : Key), v, G1'.er, rfl, ev, ?_⟩
        have b9 : But r1 H8 (upd H8 r1 (.dK (dropK kr (Sum.inr x : Key)))) := (But.refl r1 H8).put _
        have k9 : Kd flatO H8 (upd H8 r1 (.dK (dropK kr (Sum.inr x : Key)))) := kd_but1 b9 G1'.er rfl
        have na1r : a1 ≠ r1 := fun z => by have := G1'.ea; rw [z, G1'.er] at this; cases this
        have G9 : GR (upd H8 r1 (.dK (dropK kr (Sum.inr x : Key)))) a1 l1 r1 f1 kl1 (dropK kr (Sum.inr x : Key)) kf1 ⟨g1.loads, dropN m x, g1.fixed⟩ := ⟨b9 _ _ na1r G1'.ea, b9 _ _ n_lr1 G1'.el, upd_same, b9 _ _ n_fr1 G1'.ef, G1'.rl.mv k9, KvR.drop (G1'.rr.mv k9), G1'.rf.mv k9⟩
        have b8' : But q H H8 := ((but_of s6).trans (but_of s7)).trans t8
        refine ⟨_, ⟨g1.loads, dropN m x, g1.fixed⟩, rfl, ?_, ⟨_, _, b9 _ _ nprq (k8 _ _ (s7 _ _ e6) rfl), G9.gv, (G2'.but b9 G1'.er nl2r nr2r nf2r).gv⟩, Gk⟩
        intro c' o e
        exact b9 _ _ (ne_of_none e fr1) (b8'.same nq _ _ e)
    rintro σ H5 ⟨z3, g, rfl, s5, W5, Gg⟩
    clear Q1 Q2 eP4 pl4 sH4
    have Of : S2Ok (g, g2) := ⟨Gg, N2.ok⟩
    -- the workshop
    intro p2 hp2
    have s6 := same1 hp2 (.dK [])
    have eN : (upd H5 p2 (.dK [])) p2 = some (.dK []) := upd_same
    have W6 := W5.up s6
    obtain ⟨v2, dg2, WG2⟩ := W6.get (n := "two") (.inr rfl)
    refine ⟨_, rfl, p, v2, rfl, dg2, v2, g2, rfl, (by have := WG2; unfold getG at this; rw [if_neg ne_to] at this; exact this), N2.ok, fun u2 H7 s7 U2 => ?_⟩
    obtain ⟨v1, dg1, WG1⟩ := (W6.up s7).get (n := "one") (.inl rfl)
    refine ⟨_, rfl, p, v1, rfl, dg1, v1, g, rfl, (by have := WG1; unfold getG at this; rw [if_pos rfl] at this; exact this), Gg, fun u1 H8 s8 U1 => ?_⟩
    have e8 : H8 p2 = some (.dK []) := s8 _ _ (s7 _ _ eN)
    refine ⟨e8, [((Sum.inr "two" : Key), u2), ((Sum.inr "one" : Key), u1)], rfl, (by show 2 ≤ 15; decide), ?_⟩
    rw [merge_nil (by show ([(Sum.inr "two" : Key), Sum.inr "one"] : List Key).Nodup; decide +kernel)]
    have X2 := WkAt.put (ks' := [((Sum.inr "two" : Key), u2), ((Sum.inr "one" : Key), u1)]) (U2.up s8) (by rw [eN]; exact fun z => by cases z) e8
    have X1 := WkAt.put (ks' := [((Sum.inr "two" : Key), u2), ((Sum.inr "one" : Key), u1)]) U1 (by rw [s7 _ _ eN]; exact fun z => by cases z) e8
    have s9 : Same H5 (upd H8 p2 (.dK [((Sum.inr "two" : Key), u2), ((Sum.inr "one" : Key), u1)])) := Same.back ((but_of ((s6.trans s7).trans s8))) hp2 _
    have e9 : (upd H8 p2 (.dK [((Sum.inr "two" : Key), u2), ((Sum.inr "one" : Key), u1)])) p2 = some (.dK [((Sum.inr "two" : Key), u2), ((Sum.inr "one" : Key), u1)]) := upd_same
    generalize upd H8 p2 (.dK [((Sum.inr "two" : Key), u2), ((Sum.inr "one" : Key), u1)]) = H9 at X1 X2 s9 e9
    clear s6 s7 s8 e8 U1 U2 W6 dg1 dg2 WG1 WG2 eN hp2
    intro x dx hx hdx ne
    have hxn : H x = none := (s5.trans s9).free hx
    have s10 : Same H9 (upd (upd H9 dx (.own x)) x (.ins (ga K "Workshop") dx [])) := same_new (same1 hdx _) (by rw [upd_ne ne.symm]; exact hx) _
    refine ⟨x, dx, p2, (g, g2), u1, u2, rfl, upd_same, s10 _ _ e9, X1.up s10, X2.up s10, fun H11 b11 Sh => ⟨rfl, ?_⟩⟩
    have s11 : Same H H11 := fun c o e => by
      have e9' := s9 _ _ (s5 _ _ e)
      exact b11 c o (ne_of_none e9' hx) (s10 _ _ e9')
    have W11 : StA H11 p (g, g2) := by
      have e0 : (upd (upd H9 dx (.own x)) x (.ins (ga K "Workshop") dx [])) x = some (.ins (ga K "Workshop") dx []) := upd_same
      exact (W5.up (s9.trans s10)).mv (kd_but1 b11 e0 rfl)
    clear s10 s9 s5 W5 X1 X2 e9 b11 hx hdx ne
    -- the record
    refine ⟨_, rfl, (by show 0 ≤ sizeLine; exact Nat.zero_le _), fun ae hae => ⟨_, _, rfl, ?_⟩⟩
    have s12 := same1 hae (.lst [])
    have L0 : LI K H (upd H11 ae (.lst [])) p x p ae (g, g2) (g, g2) [] [] := ⟨s11.trans s12, W11.up s12, Of, W11.up s12, Of, Sh.up s12, upd_same, .nil, fun en h => by cases h⟩
    generalize upd H11 ae (.lst []) = H12 at L0
    clear s12 hae s11 W11 Sh
    -- cell by cell
    refine ⟨_, rfl, a, _, rfl, .inl (L0.s.seq hS), _, _, rfl, _, _, rfl, _, _, rfl, ?_, ?_⟩
    · refine ⟨by decide, by decide, ?_, ?_⟩ <;> split <;> split <;> omega
    refine for_range (lo := 1) (n := _) (fun i σ H2 => ∃ (z3 z7 z8 z9 z10 z11 : Option V) (d ae : Addr) (c : S2) (es : List En) (xs : List V), σ = [some (.ref a), some (.ref q), some (.ref p), z3, some (.ref x), some (.ref d), some (.ref ae), z7, z8, z9, z10, z11] ∧ LI K H H2 p x d ae (g, g2) c es xs ∧ es.length ≤ i)
      ⟨_, none, none, none, none, none, p, ae, (g, g2), [], [], rfl, L0, Nat.le_refl _⟩ ?_ (fun σ H2 _ => k H2)
    rintro i σ H2 hi ⟨z3, z7, z8, z9, z10, z11, d, ae, c, es, xs, rfl, L, li⟩
    have hi17 : i ≤ 16 := by
      revert hi
      split <;> split <;> omega
    obtain ⟨s2, f0, fo, c0, co, sh, eae, exs, eos⟩ := L
    -- the entry
    refine ⟨fun σ H3 => ∃ ve, σ = [some (.ref a), some (.ref q), some (.ref p), z3, some (.ref x), some (.ref d), some (.ref ae), some (.int (1 + (i : Int))), some ve, z9, z10, z11] ∧ Same H2 H3 ∧ ((∃ en, Dt H3 ve (dEn en) ∧ EnAll en) ∨ ∃ u n, Dt H3 ve (dUndo u n) ∧ NameB u = true), ?_, ?_⟩
    · refine ⟨_, rfl, _, rfl, a, ns, _, rfl, s2.seq hS, l63, by omega, by omega, fun q3 H3 s3 n3 p3 => ?_⟩
      refine ⟨_, rfl, q3, d, c, rfl, p3, c0.up s3, co, fun v H4 en b4 dv ea => ?_, fun v H4 u n b4 dv hu' => ?_⟩
      · exact ⟨v, rfl, ((but_of s3).trans b4).same n3, .inl ⟨en, dv, ea⟩⟩
      · exact ⟨v, rfl, ((but_of s3).trans b4).same n3, .inr ⟨u, n, dv, hu'⟩⟩
    rintro σ H3 ⟨ve, rfl, s3, alt⟩
    have sh3 := sh.up s3
    have eok : ∀ en ∈ es, EnOk en := fun en h => (eos en h).1
    have l100 : es.length ≤ 100 := by omega
    -- what is due
    refine ⟨fun σ H4 => ∃ (z10 z11 : Option V) (vd : V) (d' ae' : Addr) (c' : S2) (es' : List En) (xs' : List V) (dd : PyData), σ = [some (.ref a), some (.ref q), some (.ref p), z3, some (.ref x), some (.ref d'), some (.ref ae'), some (.int (1 + (i : Int))), some ve, some vd, z10, z11] ∧ Same H3 H4 ∧ Dt H4 vd dd ∧ Sh 7 dd ∧ StA H4 d' c' ∧ S2Ok c' ∧ H4 ae' = some (.lst xs') ∧ DtL H4 xs' (es'.map dEn) ∧ (∀ en ∈ es', EnOk en ∧ EnFine en) ∧ es'.length ≤ i + 1 ∧
      ∀ Q' : VK, (∀ v' H', But x H4 H' → ShAt K H' x (g, g2) c' es' → Dt H' v' dd → Q' v' H') → spDone K [.ref x, ve] H4 Q' E0, ?_, ?_⟩
    · rcases alt with ⟨en, dv, ea⟩ | ⟨u, n, dv, hu'⟩
      · obtain ⟨at1, ys, rfl, hat, ex⟩ := dEn_inv dv
        have y2 : ∃ wd : Str, ys[2]? = some (.str wd) ∧ ¬ wd = "undo" := by
          cases en with
          | load u n z q => obtain ⟨vq, rfl, _⟩ := ex; exact ⟨"load", rfl, by decide +kernel⟩
          | rope u n z b ws q => obtain ⟨vp, vq, rfl, _⟩ := ex; exact ⟨"rope", rfl, by decide +kernel⟩
          | drop u n z => obtain rfl := ex; exact ⟨"drop", rfl, by decide +kernel⟩
        obtain ⟨wd, ey2, nwd⟩ := y2
        refine ⟨_, rfl, at1, ys, _, _, rfl, rfl, SqT.of hat, atI_nat (j := 2) ey2, rfl, _, rfl, ?_⟩
        rw [ne_str nwd]
        refine iteF ?_
        refine ⟨_, rfl, _, rfl, d, _, c, en, rfl, c0.up s3, co, dv, ea.1, ea.2.1, fun vd H4 s4 dvd => ?_⟩
        cases hd : dueS c en with
        | some er =>
          rw [hd] at dvd
          obtain ⟨a', rfl⟩ : ∃ a', vd = .ref a' := by
            have dv2 : Dt H4 vd (dEr er) := dvd
            cases er <;> (cases dv2; exact ⟨_, rfl⟩)
          refine ⟨_, rfl, _, rfl, iteF ?_⟩
          refine ⟨_, _, _, d, ae, c, es, xs, dEr er, rfl, s4, dvd, sh_er hd ea.1, (c0.up s3).up s4, co, (s3.trans s4) _ _ eae, exs.up (s3.trans s4), eos, by omega, fun Q' kq => ?_⟩
          refine ⟨x, _, (g, g2), c, es, rfl, sh3.up s4, fo, co, l100, eok, .inl ⟨en, dv.up s4, ea, fun er' e' v' H' s' d' => ?_, fun e' => by rw [hd] at e'; cases e'⟩⟩
          rw [hd] at e'
          cases e'
          exact kq v' H' (but_of s') ((sh3.up s4).up s') d'
        | none =>
          rw [hd] at dvd
          cases dvd
          refine ⟨_, rfl, _, rfl, iteT ?_⟩
          refine ⟨(by show 2 ≤ sizeLine; decide), fun t ht => ?_⟩
          have s5 := s4.trans (same1 ht (.tup [.str "entry", .non]))
          refine ⟨_, rfl, _, rfl, d, _, c, en, rfl, (c0.up s3).up s5, co, dv.up s5, ea.1, hd, fun d' H6 s6 W6 => ?_⟩
          refine ⟨_, rfl, _, rfl, (by show 1 ≤ sizeLine; decide), fun l7 hl7 => ?_⟩
          have s7 := (s5.trans s6).trans (same1 hl7 (.lst [.ref at1]))
          have s7' := same1 hl7 (.lst [.ref at1])
          have lx : xs.length = es.length := by rw [exs.length, List.length_map]
          refine ⟨ae, l7, xs, _, rfl, rfl, (s3.trans s7) _ _ eae, upd_same, (by show xs.length + 1 ≤ sizeLine; exact Nat.le_of_lt (small1000 (by omega))), fun l8 hl8 => ?_⟩
          have s8 := same1 hl8 (.lst (xs ++ [.ref at1]))
          have sZ := s7.trans s8
          have etup := s8 _ _ (s7' _ _ (s6 _ _ (show (upd H4 t (.tup [.str "entry", .non])) t = some _ from upd_same)))
          refine ⟨_, _, _, rfl, _, _, _, d', l8, madeS c en, es ++ [en], xs ++ [.ref at1], dDone, rfl, sZ, .tup etup (.cons (.str _) (.cons .non .nil)), sh_done, (W6.up s7').up s8, madeS_ok co hd, upd_same, ?_, ?_, ?_, fun Q' kq => ?_⟩
          · rw [List.map_append]
            exact (exs.up (s3.trans sZ)).app (.cons (dv.up sZ) .nil)
          · intro e' he'
            rcases List.mem_append.mp he' with h | h
            · exact eos e' h
            · rw [List.mem_singleton.mp h]
              exact ⟨ea.1, ea.2.1⟩
          · rw [List.length_append]
            show es.length + 1 ≤ i + 1
            omega
          · refine ⟨x, _, (g, g2), c, es, rfl, sh3.up sZ, fo, co, l100, eok, .inl ⟨en, dv.up sZ, ea, (fun er' e' => by rw [hd] at e'; cases e'), fun _ v' H' b' S' d' => kq v' H' b' S' d'⟩⟩
      · obtain ⟨at1, rfl, hat⟩ := dUndo_inv dv
        refine ⟨_, rfl, at1, _, _, _, rfl, rfl, SqT.of hat, rfl, rfl, _, rfl, ?_⟩
        rw [decide_eq_true rfl]
        refine iteT ?_
        refine ⟨_, rfl, _, rfl, _, rfl, at1, _, _, _, rfl, rfl, SqT.of hat, rfl, ?_⟩
        refine ⟨p, ae, (g, g2), es, xs, u, rfl, f0.up s3, fo, s3 _ _ eae, exs.up s3, eos, l100, fun hn R v H4 s4 eR dR => ?_, fun j en hj ej => ⟨fun er hrep R v H4 s4 eR dR => ?_, fun c' hrep R v l ls d' H4 s4 eR dR el dls W' => ?_⟩⟩
        · refine ⟨R, _, rfl, SqL.of eR, rfl, _, _, rfl, _, _, rfl, _, _, rfl, rfl, ?_⟩
          refine ⟨_, rfl, _, rfl, iteF ?_⟩
          refine ⟨_, _, _, d, ae, c, es, xs, dEr .nothing, rfl, s4, dR, sh_nothing, (c0.up s3).up s4, co, (s3.trans s4) _ _ eae, exs.up (s3.trans s4), eos, by omega, fun Q' kq => ?_⟩
          exact ⟨x, _, (g, g2), c, es, rfl, sh3.up s4, fo, co, l100, eok, .inr ⟨u, n, dv.up s4, hu', fun _ v' H' s' d' => kq v' H' (but_of s') ((sh3.up s4).up s') d', fun j' en' h1 _ => by rw [hn] at h1; cases h1⟩⟩
        · refine ⟨R, _, rfl, SqL.of eR, rfl, _, _, rfl, _, _, rfl, _, _, rfl, rfl, ?_⟩
          refine ⟨_, rfl, _, rfl, iteF ?_⟩
          refine ⟨_, _, _, d, ae, c, es, xs, dEr er, rfl, s4, dR, sh_replay (fun e' he' => eok e' (mem_without he')) hrep, (c0.up s3).up s4, co, (s3.trans s4) _ _ eae, exs.up (s3.trans s4), eos, by omega, fun Q' kq => ?_⟩
          refine ⟨x, _, (g, g2), c, es, rfl, sh3.up s4, fo, co, l100, eok, .inr ⟨u, n, dv.up s4, hu', (fun h1 => by rw [hj] at h1; cases h1), fun j' en' h1 h2 => ?_⟩⟩
          rw [hj] at h1
          cases h1
          refine ⟨fun er' h3 v' H' s' d' => ?_, fun c' h3 => by rw [hrep] at h3; cases h3⟩
          rw [hrep] at h3
          cases h3
          exact kq v' H' (but_of s') ((sh3.up s4).up s') d'
        · refine ⟨R, _, rfl, SqL.of eR, rfl, _, _, rfl, _, _, rfl, _, _, rfl, rfl, ?_⟩
          refine ⟨_, rfl, _, rfl, iteT ?_⟩
          refine ⟨_, rfl, _, rfl, _, _, rfl, ?_⟩
          have hen : en ∈ es := List.mem_of_getElem? ej
          refine ⟨_, _, _, d', l, c', without es j, ls, .tuple [.str "entry", dEn en], rfl, s4, dR, sh_undone (eok en hen), W', replay_ok fo hrep, el, dls, fun e' he' => eos e' (mem_without he'), Nat.le_trans len_without (by omega), fun Q' kq => ?_⟩
          refine ⟨x, _, (g, g2), c, es, rfl, sh3.up s4, fo, co, l100, eok, .inr ⟨u, n, dv.up s4, hu', (fun h1 => by rw [hj] at h1; cases h1), fun j' en' h1 h2 => ?_⟩⟩
          rw [hj] at h1
          cases h1
          rw [ej] at h2
          cases h2
          refine ⟨(fun er' h3 => by rw [hrep] at h3; cases h3), fun c2 h3 v' H' b' S' d2 => ?_⟩
          rw [hrep] at h3
          cases h3
          exact kq v' H' b' S' d2
    rintro σ H4 ⟨z10', z11', vd, d', ae', c', es', xs', dd, rfl, s4, dvd, shd, W4, co4, ea4, ex4, eo4, li4, kd⟩
    -- the deed
    refine ⟨_, rfl, _, rfl, kd _ fun v' H5 b5 S5 dv5 => ?_⟩
    obtain ⟨dxs, fw0, ow0, oe0, xs00, hpx, _⟩ := (sh3.up s4)
    have k5 : Kd midO H4 H5 := kd_but1 b5 hpx rfl
    have dvd5 := dvd.mv k5.flat
    refine ⟨_, rfl, dd, dd, dv5.dp _ _, dvd5.dp _ _, shd.shaped (by decide), shd.shaped (by decide), _, rfl, ?_⟩
    rw [SeqAt.eqv_refl _ shd.1]
    refine iteF ?_
    have xfl : flatO (.lst xs') = true := ens_flat ex4
    have ea5 := k5.flat _ _ ea4 xfl
    refine ⟨_, rfl, _, rfl, _, rfl, x, d', ae', (g, g2), c', es', xs', rfl, S5, W4.mv k5, co4, ea5, ex4.mv k5.flat, fun e' he' => (eo4 e' he').1, by omega, fun H6 s6 => ⟨_, rfl, iteF ?_⟩⟩
    have k6 : Kd midO H4 H6 := k5.trans (kd_of s6)
    refine ⟨_, _, _, _, _, _, d', ae', c', es', xs', rfl, ⟨?_, f0.mv ((kd_of (s3.trans s4)).trans k6), fo, W4.mv k6, co4, S5.up s6, k6.flat _ _ ea4 xfl, ex4.mv k6.flat, eo4⟩, li4⟩
    intro b o e
    have nbx : b ≠ x := ne_of_none e hxn
    exact s6 _ _ (b5 b o nbx (s4 _ _ (s3 _ _ (s2 _ _ e))))
end
end K7

set_option Elab.async false
set_option linter.all false
set_option maxRecDepth 100000
set_option maxHeartbeats 4000000
/-! What the head tells. Printed by gen_head.py. -/
namespace K7
open PySem PySem.Spec PyProof.Rows L2
/-! ### a def at an address -/
theorem DefM.funD {K : PySem.W.Frag} {d : DefM} (e : fnWa K (d.at_ K) = d.val) (c : d.ok K = true) : ∃ fd, FunD K d.name d.qual (defArgs d.st) (defBody d.st) (defScope d.st) [] d.kwd (d.at_ K) fd := by
  obtain ⟨kp, c2⟩ := He.ba c
  unfold fnWa at e
  cases q : K.lookup (d.at_ K) with
  | none =>
    rw [q] at c2
    cases c2
  | some o =>
    obtain ⟨oc, od, dt, osl⟩ := o
    rw [q] at c2 e
    cases dt with
    | func fd =>
      obtain ⟨n1, n2, n3, n4, n5, n6, n7, n8, n9, n10, n11, n12, n13, n14, n15⟩ := fd
      have e2 : (some (n1, n2, n3, n4, n5, n6, n7, n15) : He.FnW) = some (d.name, d.qual, defArgs d.st, .stmts (defBody d.st), defScope d.st, mainGlobals, [], builtinsNs) := e
      simp only [Option.some.injEq, Prod.mk.injEq] at e2
      obtain ⟨h1, h2, h3, h4, h5, h6, h7, h8⟩ := e2
      subst h1 h2 h3 h4 h5 h6 h7 h8
      have c3 : (PySem.W.codeIn K n13 d.qual && (He.dflB K n8 [] && He.kwdB K n9 d.kwd)) = true := c2
      obtain ⟨k1, k2⟩ := He.ba c3
      obtain ⟨k3, k4⟩ := He.ba k2
      exact ⟨_, ⟨oc, od, n8, n9, n10, n11, n12, n13, n14, osl, rfl, q, k1, He.dflB_ok k3, He.kwdB_ok k4⟩, kp⟩
    | _ => cases c2
/-! ### a property -/
theorem propB_ok {K : PySem.W.Frag} {c f : Str} (h : propB K c f = true) : PropOf K (ga K c) f (ma K (ga K c) f) (pgA K (ma K (ga K c) f)) := by
  obtain ⟨h1, h⟩ := He.ba h
  obtain ⟨h2, h⟩ := He.ba h
  obtain ⟨h3, h4⟩ := He.ba h
  refine ⟨He.eqO_ok h1, He.eqO_ok h2, of_decide_eq_true h3, ?_⟩
  unfold pgA
  split at h4
  · rename_i g rest e
    rw [e]
    exact ⟨rest, rfl⟩
  · cases h4
/-! ### an own error -/
theorem clsB_ok {K : PySem.W.Frag} {C : Addr} {bm : List Value} {new ini : String} (h : clsB K C bm new ini = true) : ∃ nm q N bs sn sub ab col dd k0 k1 k2 k3 k5, K.lookup C = some (excClassObj nm q C N bs bm true sn sub ab col dd k0 k1 k2 k3 k5 new) ∧ PySem.W.alongIn K "__init__" bm = some (some (.builtin ini)) := by
  unfold clsB at h
  split at h
  · rename_i dd cd sl ho
    split at h
    · rename_i C' bm' k0 k1 k2 k3 n k5 hm hs
      simp only [Bool.and_eq_true, decide_eq_true_eq, Bool.not_eq_true'] at h
      obtain ⟨rfl, rfl, hdel, hdict, rfl, hal⟩ := h
      obtain ⟨nm, bs, mro, ns, qn, hd, sn, sub, ab, col, del⟩ := cd
      dsimp only at hm hdel hdict
      subst hm hdel hdict
      have hsl : sl = #[k0, k1, k2, k3, some (.builtin n), k5] := by
        obtain ⟨l⟩ := sl
        simp only at hs
        rw [hs]
      subst hsl
      exact ⟨nm, qn, ns, bs, sn, sub, ab, col, dd, k0, k1, k2, k3, k5, ho, He.eqO_ok hal⟩
    · cases h
  · cases h
/-- the text of such a class's method -/
def XFit (st : Stmt) (f : Str) : Prop := ∃ (msg : Str) (p1 p2 q1 q2 q3 q4 q5 q6 q7 q8 q9 q10 : Pos), defArgs st = xA f p1 p2 ∧ defBody st = xB f msg q1 q2 q3 q4 q5 q6 q7 q8 q9 q10 ∧ defScope st = xS f ∧ (q3.endLine == q5.line) = true
theorem iniB_ok {K : PySem.W.Frag} {C fI : Addr} {qual f : Str} {st : Stmt} (h : iniB K C fI qual = true) (e : xWa K fI = (some (("__init__" : Str), qual, defArgs st, FuncBody.stmts (defBody st), defScope st, mainGlobals, (["__class__"] : List Str), builtinsNs) : XW)) (hf : XFit st f) :
    ∃ (oc : Value) (od : Option Addr) (doc pm : Value) (an : Option Addr) (cda : Addr) (ct : Value) (osl : Array (Option Value)) (cc : Addr) (qual msg : Str) (p1 p2 q1 q2 q3 q4 q5 q6 q7 q8 q9 q10 : Pos),
    K.lookup fI = some ⟨oc, od, .func (PySem.W.ksFn "__init__" qual (xA f p1 p2) (xB f msg q1 q2 q3 q4 q5 q6 q7 q8 q9 q10) (xS f) .none .none doc pm an (.ref cda) ct cc), osl⟩ ∧ PySem.W.codeIn K (.ref cda) qual = true ∧ (q3.endLine == q5.line) = true ∧
    (∃ (ccl : Value) (cdd : Option Addr) (vs : Array Value) (ccs : Array (Option Value)) (file : Str) (tf : Tok), K.lookup cda = some ⟨ccl, cdd, .fields vs, ccs⟩ ∧ vs[2]? = some (.str file tf) ∧ ((fileP : Str) == file) = true) ∧
    ∃ (cl : Value) (cld : Option Addr) (csl : Array (Option Value)), K.lookup cc = some ⟨cl, cld, .cell (some (.ref C)), csl⟩ := by
  obtain ⟨msg, p1, p2, q1, q2, q3, q4, q5, q6, q7, q8, q9, q10, ea, eb, es, el⟩ := hf
  unfold iniB at h
  unfold xWa at e
  split at h
  · rename_i oc od fd osl ho
    rw [ho] at e
    obtain ⟨n1, n2, n3, n4, n5, n6, n7, n8, n9, n10, n11, n12, n13, n14, n15⟩ := fd
    have e2 : (some (n1, n2, n3, n4, n5, n6, n7.map (·.1), n15) : XW) = (some (("__init__" : Str), qual, defArgs st, FuncBody.stmts (defBody st), defScope st, mainGlobals, (["__class__"] : List Str), builtinsNs) : XW) := e
    simp only [Option.some.injEq, Prod.mk.injEq] at e2
    obtain ⟨h1, h2, h3, h4, h5, h6, h7, h8⟩ := e2
    split at h
    · rename_i cda nmc cc e8 e9 e13 e7
      dsimp only at e8 e9 e13 e7
      obtain ⟨k1, h⟩ := He.ba h
      obtain ⟨k2, k3⟩ := He.ba h
      rw [e7] at h7
      have hnm : nmc = ("__class__" : Str) := by simpa using h7
      subst h1 h2 h3 h4 h5 h6 h8 e8 e9 e13 e7 hnm
      split at k2
      · rename_i ccl cdd vs ccs hc
        split at k2
        · rename_i file tf hv
          split at k3
          · rename_i cl cld C' csl hcc
            have : C' = C := of_decide_eq_true k3
            subst this
            refine ⟨oc, od, n10, n11, n12, cda, n14, osl, cc, n2, msg, p1, p2, q1, q2, q3, q4, q5, q6, q7, q8, q9, q10, ?_, k1, el, ⟨ccl, cdd, vs, ccs, file, tf, hc, hv, k2⟩, cl, cld, csl, hcc⟩
            rw [ho, ea, eb, es]
          · cases k3
        · cases k2
      · cases k2
    · cases h
  · cases h
theorem defX_ok {K : PySem.W.Frag} {h : Heap} {mg : Str → Option Value} {d : DefX} {Bn : String} (X : K.In h) (G : h.Ns mainGlobals mg) (c : d.ok K = true) (e : xWa K (ma K (ga K d.x) "__init__") = d.val) (hg : (He.Fa.glo d.x).ok K = true) (hs : (He.Fa.free "super").ok K = true) (hf : XFit d.st d.f) (ht : XTail (ga K d.x) Bn (d.bm K)) :
    XTxt PySem.Challenge.rw_pulleyworks_k73_whole_workshops.prog K mg d.x d.f (ga K d.x) (ma K (ga K d.x) "__init__") d.Bi d.ini Bn d.new := by
  unfold DefX.ok at c
  obtain ⟨c1, c⟩ := He.ba c
  obtain ⟨c2, c⟩ := He.ba c
  obtain ⟨c3, c⟩ := He.ba c
  obtain ⟨c4, c⟩ := He.ba c
  obtain ⟨c5, c⟩ := He.ba c
  obtain ⟨c6, c⟩ := He.ba c
  obtain ⟨c7, c⟩ := He.ba c
  obtain ⟨c8, c⟩ := He.ba c
  obtain ⟨c9, c⟩ := He.ba c
  obtain ⟨c10, c⟩ := He.ba c
  obtain ⟨c11, c⟩ := He.ba c
  obtain ⟨c12, c⟩ := He.ba c
  obtain ⟨c13, c⟩ := He.ba c
  obtain ⟨c14, c15⟩ := He.ba c
  obtain ⟨nm, q, N, bs, sn, sub, ab, col, dd, k0, k1, k2, k3, k5, hC, hal⟩ := clsB_ok c1
  exact ⟨He.glo_ok X G hg, ⟨nm, q, N, bs, d.bm K, sn, sub, ab, col, dd, k0, k1, k2, k3, k5, hC, ht, hal⟩, He.eqO_ok c3, He.eqO_ok c4, He.eqO_ok c5, He.eqO_ok c6, He.eqO_ok c7, of_decide_eq_true c8, c9, of_decide_eq_true c10, of_decide_eq_true c11, c12, of_decide_eq_true c13, of_decide_eq_true c14, He.eqO_ok c15,
    He.free_ok X G hs, by decide +kernel, iniB_ok c2 e hf⟩
theorem mkr_ok {K : PySem.W.Frag} {x : Str} (c : (He.Fa.mkr x).ok K = true) : Mk K (ga K x) (ma K (ga K x) "__init__") := by
  obtain ⟨h1, c⟩ := He.ba (show (PySem.W.makesIn K (ga K x) && (He.eqO (PySem.W.findIn K (.ref (ga K x)) "__init__") (some (some (.ref (ma K (ga K x) "__init__")))) && (PySem.W.isFn K (.ref (ma K (ga K x) "__init__")) && PySem.W.keepIn K (.ref (ga K x))))) = true from c)
  obtain ⟨h2, c⟩ := He.ba c
  obtain ⟨h3, h4⟩ := He.ba c
  exact ⟨h1, He.eqO_ok h2, h3, h4⟩
theorem meth_ok {K : PySem.W.Frag} {x m : Str} (c : (He.Fa.meth x m).ok K = true) : Meth K (ga K x) m (ma K (ga K x) m) := by
  obtain ⟨h1, c⟩ := He.ba (show (He.eqO (PySem.W.findIn K (.ref (ga K x)) m) (some (some (.ref (ma K (ga K x) m)))) && (PySem.W.isFn K (.ref (ma K (ga K x) m)) && PySem.W.keepIn K (.ref (ma K (ga K x) m)))) = true from c)
  obtain ⟨h2, h3⟩ := He.ba c
  exact ⟨He.eqO_ok h1, h2, h3⟩
theorem cls_ok {K : PySem.W.Frag} {x : Str} (c : (He.Fa.cls x).ok K = true) : Cls K (ga K x) := by
  obtain ⟨h1, c⟩ := He.ba (show (PySem.W.plainGet K (ga K x) Str.empty && (PySem.W.hasDictIn K (ga K x) && (PySem.W.plainOver K (ga K x) && He.eqO (PySem.W.findIn K (.ref (ga K x)) "__setattr__") (some (some (.builtin "object.__setattr__")))))) = true from c)
  obtain ⟨h2, c⟩ := He.ba c
  obtain ⟨h3, h4⟩ := He.ba c
  exact ⟨h1, h2, h3, He.eqO_ok h4⟩
theorem noat_ok {K : PySem.W.Frag} {x f : Str} (c : (He.Fa.noat x f).ok K = true) : NoAttr K (ga K x) f := He.eqO_ok c
/-! ### the bases -/
theorem tail_v {K : PySem.W.Frag} {C : Addr} : XTail C "ValueError" (bmV K) := by
  refine ⟨rfl, rfl, rfl, rfl, fun self => ?_⟩
  unfold bmV
  rw [refuseLoop_ref, refuseLoop_ref]
  kernel_rfl
theorem tail_o {K : PySem.W.Frag} {C : Addr} : XTail C "OverflowError" (bmO K) := by
  refine ⟨rfl, rfl, rfl, rfl, fun self => ?_⟩
  unfold bmO
  rw [refuseLoop_ref]
  kernel_rfl
theorem tail_k {K : PySem.W.Frag} {C : Addr} : XTail C "LookupError" (bmK K) := by
  refine ⟨rfl, rfl, rfl, rfl, fun self => ?_⟩
  unfold bmK
  rw [refuseLoop_ref]
  kernel_rfl
theorem fit_InvalidNumber : XFit sx_InvalidNumber "value" := ⟨_, _, _, _, _, _, _, _, _, _, _, _, _, rfl, rfl, rfl, rfl⟩
theorem fit_InvalidName : XFit sx_InvalidName "value" := ⟨_, _, _, _, _, _, _, _, _, _, _, _, _, rfl, rfl, rfl, rfl⟩
theorem fit_InvalidRope : XFit sx_InvalidRope "name" := ⟨_, _, _, _, _, _, _, _, _, _, _, _, _, rfl, rfl, rfl, rfl⟩
theorem fit_InvalidWork : XFit sx_InvalidWork "part" := ⟨_, _, _, _, _, _, _, _, _, _, _, _, _, rfl, rfl, rfl, rfl⟩
theorem fit_LimitExceeded : XFit sx_LimitExceeded "count" := ⟨_, _, _, _, _, _, _, _, _, _, _, _, _, rfl, rfl, rfl, rfl⟩
theorem fit_UnknownName : XFit sx_UnknownName "name" := ⟨_, _, _, _, _, _, _, _, _, _, _, _, _, rfl, rfl, rfl, rfl⟩
section
variable {K : PySem.W.Frag}
theorem SaysM.all (c : SaysM K) : (fa.all (fun f => f.ok K) && (fn.all (fun d => d.ok K) && (xs.all (fun d => d.ok K) && moreB K))) = true := congrArg (fun z : AlM => z.1.1) c
theorem SaysM.fact (c : SaysM K) (i : Nat) {f : He.Fa} (h : fa[i]? = some f) : f.ok K = true := List.all_eq_true.mp (He.ba c.all).1 f (List.mem_of_getElem? h)
theorem SaysM.def_ (c : SaysM K) (i : Nat) {d : DefM} (h : fn[i]? = some d) : ∃ fd, FunD K d.name d.qual (defArgs d.st) (defBody d.st) (defScope d.st) [] d.kwd (d.at_ K) fd := by
  have c2 := (He.ba (He.ba c.all).2).1
  have e : fn.map (fun d => fnWa K (d.at_ K)) = fn.map DefM.val := congrArg (fun z : AlM => z.1.2) c
  have e2 : (fn.map fun d => fnWa K (d.at_ K))[i]? = (fn.map DefM.val)[i]? := by rw [e]
  rw [List.getElem?_map, List.getElem?_map, h] at e2
  exact DefM.funD (Option.some.inj e2) (List.all_eq_true.mp c2 d (List.mem_of_getElem? h))
theorem SaysM.x (c : SaysM K) (i : Nat) {d : DefX} (h : xs[i]? = some d) : d.ok K = true ∧ xWa K (ma K (ga K d.x) "__init__") = d.val := by
  have c2 := (He.ba (He.ba (He.ba c.all).2).2).1
  have e : xs.map (fun d => xWa K (ma K (ga K d.x) "__init__")) = xs.map DefX.val := congrArg (fun z : AlM => z.2) c
  have e2 : (xs.map fun d => xWa K (ma K (ga K d.x) "__init__"))[i]? = (xs.map DefX.val)[i]? := by rw [e]
  rw [List.getElem?_map, List.getElem?_map, h] at e2
  exact ⟨List.all_eq_true.mp c2 d (List.mem_of_getElem? h), Option.some.inj e2⟩
theorem SaysM.more (c : SaysM K) : moreB K = true := (He.ba (He.ba (He.ba c.all).2).2).2
theorem SaysM.p_Workshop_names (c : SaysM K) : propB K "Workshop" "names" = true := (He.ba c.more).1
theorem SaysM.p_Workshop_entries (c : SaysM K) : propB K "Workshop" "entries" = true := (He.ba (He.ba c.more).2).1
end
theorem tx_of {K : PySem.W.Frag} {h : Heap} {mg : Str → Option Value} (X : K.In h) (G : h.Ns mainGlobals mg) (c : SaysM K) : TX PySem.Challenge.rw_pulleyworks_k73_whole_workshops.prog K mg := by
  have m := c.more
  unfold moreB at m
  obtain ⟨_, m⟩ := He.ba m
  obtain ⟨_, m⟩ := He.ba m
  obtain ⟨m3, m⟩ := He.ba m
  obtain ⟨m4, m⟩ := He.ba m
  obtain ⟨m5, m⟩ := He.ba m
  obtain ⟨m6, m⟩ := He.ba m
  obtain ⟨m7, m⟩ := He.ba m
  obtain ⟨m8, m⟩ := He.ba m
  obtain ⟨m9, m⟩ := He.ba m
  obtain ⟨m10, m⟩ := He.ba m
  obtain ⟨m11, m⟩ := He.ba m
  obtain ⟨m12, m13⟩ := He.ba m
  exact {
    g_is_integer := ⟨He.glo_ok X G (c.fact 0 rfl), by
      obtain ⟨fd, FD⟩ := c.def_ 0 rfl
      exact ⟨fd, FunD.toFun FD⟩⟩
    g_common_divisor := ⟨He.glo_ok X G (c.fact 1 rfl), by
      obtain ⟨fd, FD⟩ := c.def_ 1 rfl
      exact ⟨fd, FunD.toFun FD⟩⟩
    g_is_fraction := ⟨He.glo_ok X G (c.fact 2 rfl), by
      obtain ⟨fd, FD⟩ := c.def_ 2 rfl
      exact ⟨fd, FunD.toFun FD⟩⟩
    g_is_load := ⟨He.glo_ok X G (c.fact 3 rfl), by
      obtain ⟨fd, FD⟩ := c.def_ 3 rfl
      exact ⟨fd, FunD.toFun FD⟩⟩
    g_is_word := ⟨He.glo_ok X G (c.fact 4 rfl), by
      obtain ⟨fd, FD⟩ := c.def_ 4 rfl
      exact ⟨fd, FunD.toFun FD⟩⟩
    g_is_name := ⟨He.glo_ok X G (c.fact 5 rfl), by
      obtain ⟨fd, FD⟩ := c.def_ 5 rfl
      exact ⟨fd, FunD.toFun FD⟩⟩
    g_are_hooks := ⟨He.glo_ok X G (c.fact 6 rfl), by
      obtain ⟨fd, FD⟩ := c.def_ 6 rfl
      exact ⟨fd, FunD.toFun FD⟩⟩
    g_are_anchors := ⟨He.glo_ok X G (c.fact 7 rfl), by
      obtain ⟨fd, FD⟩ := c.def_ 7 rfl
      exact ⟨fd, FunD.toFun FD⟩⟩
    g_is_path := ⟨He.glo_ok X G (c.fact 8 rfl), by
      obtain ⟨fd, FD⟩ := c.def_ 8 rfl
      exact ⟨fd, FunD.toFun FD⟩⟩
    g_is_rope := ⟨He.glo_ok X G (c.fact 9 rfl), by
      obtain ⟨fd, FD⟩ := c.def_ 9 rfl
      exact ⟨fd, FunD.toFun FD⟩⟩
    g_ordered := ⟨He.glo_ok X G (c.fact 10 rfl), by
      obtain ⟨fd, FD⟩ := c.def_ 10 rfl
      exact ⟨fd, FunD.toFun FD⟩⟩
    g_check_known := ⟨He.glo_ok X G (c.fact 11 rfl), by
      obtain ⟨fd, FD⟩ := c.def_ 11 rfl
      exact ⟨fd, FunD.toFun FD⟩⟩
    g_check_size := ⟨He.glo_ok X G (c.fact 12 rfl), by
      obtain ⟨fd, FD⟩ := c.def_ 12 rfl
      exact ⟨fd, FunD.toFun FD⟩⟩
    mk_W := mkr_ok (c.fact 13 rfl)
    i_W := by
      obtain ⟨fd, FD⟩ := c.def_ 13 rfl
      exact ⟨fd, FD⟩
    m_Work_points := ⟨meth_ok (c.fact 14 rfl), by
      obtain ⟨fd, FD⟩ := c.def_ 14 rfl
      exact ⟨fd, FunD.toFun FD⟩⟩
    m_Work_with_load := ⟨meth_ok (c.fact 15 rfl), by
      obtain ⟨fd, FD⟩ := c.def_ 15 rfl
      exact ⟨fd, FunD.toFun FD⟩⟩
    m_Work_with_rope := ⟨meth_ok (c.fact 16 rfl), by
      obtain ⟨fd, FD⟩ := c.def_ 16 rfl
      exact ⟨fd, FunD.toFun FD⟩⟩
    m_Work_without_rope := ⟨meth_ok (c.fact 17 rfl), by
      obtain ⟨fd, FD⟩ := c.def_ 17 rfl
      exact ⟨fd, FunD.toFun FD⟩⟩
    m_Work_eq := ⟨meth_ok (c.fact 18 rfl), by
      obtain ⟨fd, FD⟩ := c.def_ 18 rfl
      exact ⟨fd, FunD.toFun FD⟩⟩
    g_check_work := ⟨He.glo_ok X G (c.fact 19 rfl), by
      obtain ⟨fd, FD⟩ := c.def_ 19 rfl
      exact ⟨fd, FunD.toFun FD⟩⟩
    g_applied := ⟨He.glo_ok X G (c.fact 20 rfl), by
      obtain ⟨fd, FD⟩ := c.def_ 20 rfl
      exact ⟨fd, FunD.toFun FD⟩⟩
    mk_S := mkr_ok (c.fact 21 rfl)
    i_S := by
      obtain ⟨fd, FD⟩ := c.def_ 21 rfl
      exact ⟨fd, FunD.toFun FD⟩
    p_Workshop_names := by
      obtain ⟨fd, FD⟩ := c.def_ 22 rfl
      exact ⟨_, _, fd, propB_ok c.p_Workshop_names, FunD.toFun FD⟩
    p_Workshop_entries := by
      obtain ⟨fd, FD⟩ := c.def_ 23 rfl
      exact ⟨_, _, fd, propB_ok c.p_Workshop_entries, FunD.toFun FD⟩
    m_Workshop_check := ⟨meth_ok (c.fact 22 rfl), by
      obtain ⟨fd, FD⟩ := c.def_ 24 rfl
      exact ⟨fd, FunD.toFun FD⟩⟩
    m_Workshop_record := ⟨meth_ok (c.fact 23 rfl), by
      obtain ⟨fd, FD⟩ := c.def_ 25 rfl
      exact ⟨fd, FunD.toFun FD⟩⟩
    m_Workshop_set_load := ⟨meth_ok (c.fact 24 rfl), by
      obtain ⟨fd, FD⟩ := c.def_ 26 rfl
      exact ⟨fd, FunD.toFun FD⟩⟩
    m_Workshop_set_rope := ⟨meth_ok (c.fact 25 rfl), by
      obtain ⟨fd, FD⟩ := c.def_ 27 rfl
      exact ⟨fd, FunD.toFun FD⟩⟩
    m_Workshop_drop_rope := ⟨meth_ok (c.fact 26 rfl), by
      obtain ⟨fd, FD⟩ := c.def_ 28 rfl
      exact ⟨fd, FunD.toFun FD⟩⟩
    m_Workshop_undo := ⟨meth_ok (c.fact 27 rfl), by
      obtain ⟨fd, FD⟩ := c.def_ 29 rfl
      exact ⟨fd, FunD.toFun FD⟩⟩
    m_Workshop_work := ⟨meth_ok (c.fact 28 rfl), by
      obtain ⟨fd, FD⟩ := c.def_ 30 rfl
      exact ⟨fd, FunD.toFun FD⟩⟩
    m_Workshop_len := ⟨meth_ok (c.fact 29 rfl), by
      obtain ⟨fd, FD⟩ := c.def_ 31 rfl
      exact ⟨fd, FunD.toFun FD⟩⟩
    g_law_pool := ⟨He.glo_ok X G (c.fact 30 rfl), by
      obtain ⟨fd, FD⟩ := c.def_ 32 rfl
      exact ⟨fd, FunD.toFun FD⟩⟩
    g_law_draw := ⟨He.glo_ok X G (c.fact 31 rfl), by
      obtain ⟨fd, FD⟩ := c.def_ 33 rfl
      exact ⟨fd, FunD.toFun FD⟩⟩
    g_law_gcd := ⟨He.glo_ok X G (c.fact 32 rfl), by
      obtain ⟨fd, FD⟩ := c.def_ 34 rfl
      exact ⟨fd, FunD.toFun FD⟩⟩
    g_law_made := ⟨He.glo_ok X G (c.fact 33 rfl), by
      obtain ⟨fd, FD⟩ := c.def_ 35 rfl
      exact ⟨fd, FunD.toFun FD⟩⟩
    g_law_add := ⟨He.glo_ok X G (c.fact 34 rfl), by
      obtain ⟨fd, FD⟩ := c.def_ 36 rfl
      exact ⟨fd, FunD.toFun FD⟩⟩
    g_law_mul := ⟨He.glo_ok X G (c.fact 35 rfl), by
      obtain ⟨fd, FD⟩ := c.def_ 37 rfl
      exact ⟨fd, FunD.toFun FD⟩⟩
    g_law_sum := ⟨He.glo_ok X G (c.fact 36 rfl), by
      obtain ⟨fd, FD⟩ := c.def_ 38 rfl
      exact ⟨fd, FunD.toFun FD⟩⟩
    g_law_number := ⟨He.glo_ok X G (c.fact 37 rfl), by
      obtain ⟨fd, FD⟩ := c.def_ 39 rfl
      exact ⟨fd, FunD.toFun FD⟩⟩
    g_law_signed := ⟨He.glo_ok X G (c.fact 38 rfl), by
      obtain ⟨fd, FD⟩ := c.def_ 40 rfl
      exact ⟨fd, FunD.toFun FD⟩⟩
    g_law_path := ⟨He.glo_ok X G (c.fact 39 rfl), by
      obtain ⟨fd, FD⟩ := c.def_ 41 rfl
      exact ⟨fd, FunD.toFun FD⟩⟩
    g_law_coefficient := ⟨He.glo_ok X G (c.fact 40 rfl), by
      obtain ⟨fd, FD⟩ := c.def_ 42 rfl
      exact ⟨fd, FunD.toFun FD⟩⟩
    g_law_carried := ⟨He.glo_ok X G (c.fact 41 rfl), by
      obtain ⟨fd, FD⟩ := c.def_ 43 rfl
      exact ⟨fd, FunD.toFun FD⟩⟩
    g_law_given := ⟨He.glo_ok X G (c.fact 42 rfl), by
      obtain ⟨fd, FD⟩ := c.def_ 44 rfl
      exact ⟨fd, FunD.toFun FD⟩⟩
    g_law_built := ⟨He.glo_ok X G (c.fact 43 rfl), by
      obtain ⟨fd, FD⟩ := c.def_ 45 rfl
      exact ⟨fd, FunD.toFun FD⟩⟩
    g_law_add_rope := ⟨He.glo_ok X G (c.fact 44 rfl), by
      obtain ⟨fd, FD⟩ := c.def_ 46 rfl
      exact ⟨fd, FunD.toFun FD⟩⟩
    g_law_entry := ⟨He.glo_ok X G (c.fact 45 rfl), by
      obtain ⟨fd, FD⟩ := c.def_ 47 rfl
      exact ⟨fd, FunD.toFun FD⟩⟩
    g_law_path_holds := ⟨He.glo_ok X G (c.fact 46 rfl), by
      obtain ⟨fd, FD⟩ := c.def_ 48 rfl
      exact ⟨fd, FunD.toFun FD⟩⟩
    g_law_due := ⟨He.glo_ok X G (c.fact 47 rfl), by
      obtain ⟨fd, FD⟩ := c.def_ 49 rfl
      exact ⟨fd, FunD.toFun FD⟩⟩
    g_law_made_entry := ⟨He.glo_ok X G (c.fact 48 rfl), by
      obtain ⟨fd, FD⟩ := c.def_ 50 rfl
      exact ⟨fd, FunD.toFun FD⟩⟩
    g_law_undone := ⟨He.glo_ok X G (c.fact 49 rfl), by
      obtain ⟨fd, FD⟩ := c.def_ 51 rfl
      exact ⟨fd, FunD.toFun FD⟩⟩
    g_law_done := ⟨He.glo_ok X G (c.fact 50 rfl), by
      obtain ⟨fd, FD⟩ := c.def_ 52 rfl
      exact ⟨fd, FunD.toFun FD⟩⟩
    g_law_shows := ⟨He.glo_ok X G (c.fact 51 rfl), by
      obtain ⟨fd, FD⟩ := c.def_ 53 rfl
      exact ⟨fd, FunD.toFun FD⟩⟩
    g_law := ⟨He.glo_ok X G (c.fact 52 rfl), by
      obtain ⟨fd, FD⟩ := c.def_ 54 rfl
      exact ⟨fd, FunD.toFun FD⟩⟩
    g_W := He.glo_ok X G (c.fact 53 rfl)
    c_W := cls_ok (c.fact 54 rfl)
    g_S := He.glo_ok X G (c.fact 55 rfl)
    c_S := cls_ok (c.fact 56 rfl)
    a_own_loads := noat_ok (c.fact 57 rfl)
    a_own_heights := noat_ok (c.fact 58 rfl)
    a_own_ropes := noat_ok (c.fact 59 rfl)
    a_first_works := noat_ok (c.fact 60 rfl)
    a_own_works := noat_ok (c.fact 61 rfl)
    a_own_entries := noat_ok (c.fact 62 rfl)
    i_MAX_HOOKS := He.int_ok X G (c.fact 63 rfl)
    i_MAX_ANCHORS := He.int_ok X G (c.fact 64 rfl)
    i_MAX_ROPES := He.int_ok X G (c.fact 65 rfl)
    i_MAX_POINTS := He.int_ok X G (c.fact 66 rfl)
    i_MAX_LETTERS := He.int_ok X G (c.fact 67 rfl)
    i_MAX_WORKS := He.int_ok X G (c.fact 68 rfl)
    s_SMALL := He.str_ok X G (c.fact 69 rfl)
    s_GREAT := He.str_ok X G (c.fact 70 rfl)
    g_DIR := He.glo_ok X G (c.fact 71 rfl)
    f_len := He.free_ok X G (c.fact 72 rfl)
    f_abs := He.free_ok X G (c.fact 73 rfl)
    f_isinstance := He.free_ok X G (c.fact 74 rfl)
    f_all := He.free_ok X G (c.fact 75 rfl)
    f_sorted := He.free_ok X G (c.fact 76 rfl)
    f_dict := He.free_ok X G (c.fact 77 rfl)
    f_list := He.free_ok X G (c.fact 78 rfl)
    f_tuple := He.free_ok X G (c.fact 79 rfl)
    f_int := He.free_ok X G (c.fact 80 rfl)
    f_str := He.free_ok X G (c.fact 81 rfl)
    f_bool := He.free_ok X G (c.fact 82 rfl)
    f_range := He.free_ok X G (c.fact 83 rfl)
    f_enumerate := He.free_ok X G (c.fact 84 rfl)
    f_min := He.free_ok X G (c.fact 85 rfl)
    f_max := He.free_ok X G (c.fact 86 rfl)
    f_sum := He.free_ok X G (c.fact 87 rfl)
    n_g := He.glo_ok X G (c.fact 95 rfl)
    ne_WS := by simpa using m3
    w_ha := He.eqO_ok m4
    w_hn := He.eqO_ok m5
    w_htk := of_decide_eq_true m6
    w_hm := of_decide_eq_true m7
    t_DIR := fun H => He.tupB_ok m8 H
    exm := fun x hx y hy => of_decide_eq_true (List.all_eq_true.mp (List.all_eq_true.mp m9 x hx) y hy)
    n_x := m10
    n_k := m11
    n_b := of_decide_eq_true m12
    n_t := of_decide_eq_true m13
    x_InvalidNumber := by
      obtain ⟨h1, h2⟩ := c.x 0 rfl
      exact ⟨_, defX_ok X G h1 h2 (c.fact 89 rfl) (c.fact 88 rfl) fit_InvalidNumber (tail_v (K := K))⟩
    x_InvalidName := by
      obtain ⟨h1, h2⟩ := c.x 1 rfl
      exact ⟨_, defX_ok X G h1 h2 (c.fact 90 rfl) (c.fact 88 rfl) fit_InvalidName (tail_v (K := K))⟩
    x_InvalidRope := by
      obtain ⟨h1, h2⟩ := c.x 2 rfl
      exact ⟨_, defX_ok X G h1 h2 (c.fact 91 rfl) (c.fact 88 rfl) fit_InvalidRope (tail_v (K := K))⟩
    x_InvalidWork := by
      obtain ⟨h1, h2⟩ := c.x 3 rfl
      exact ⟨_, defX_ok X G h1 h2 (c.fact 92 rfl) (c.fact 88 rfl) fit_InvalidWork (tail_v (K := K))⟩
    x_LimitExceeded := by
      obtain ⟨h1, h2⟩ := c.x 4 rfl
      exact ⟨_, defX_ok X G h1 h2 (c.fact 93 rfl) (c.fact 88 rfl) fit_LimitExceeded (tail_o (K := K))⟩
    x_UnknownName := by
      obtain ⟨h1, h2⟩ := c.x 5 rfl
      exact ⟨_, defX_ok X G h1 h2 (c.fact 94 rfl) (c.fact 88 rfl) fit_UnknownName (tail_k (K := K))⟩
  }
end K7

set_option Elab.async false
set_option linter.all false
set_option maxRecDepth 100000
set_option maxHeartbeats 0
/-! The run of the head, and the end. -/
namespace K7
open PySem PySem.Spec PyProof.Rows L2
theorem facts {w : World} {K : PySem.W.Frag} {h : Heap} {mg : Str → Option Value} {f : Addr} (X : K.In h) (G : h.Ns mainGlobals mg) (hfa : mg ("law" : Str) = some (.ref f)) (c : SaysM K) :
    ∃ fd : FuncData, (∀ (s : Shared) (v : Value), BindsTo s fd ⟨[v], []⟩ [("_law_script", v)]) ∧ ∀ base : Heap, K.In base → base.Ns mainGlobals mg → FnOk PySem.Challenge.rw_pulleyworks_k73_whole_workshops.prog w K mg base CX0 13 f fd ["_law_script"] (spLaw K) := by
  have T := tx_of X G c
  have e := hfa.symm.trans T.g_law.1
  cases e
  obtain ⟨fd, F⟩ := c.def_ 54 rfl
  have b := FunD.bindsA (ps := ["_law_script"]) F fun _ _ _ _ _ _ us hl => match us, hl with | [_], _ => rfl
  exact ⟨fd, fun s v => b s [v] rfl, fun base _ _ => ok_law T (FunD.toFun F)⟩
end K7
open PySem PySem.W PySem.Calls PyProof.Rows
theorem PySem.Challenge.cw_pulleyworks_k73_whole_workshops_holds : PySem.Challenge.rw_pulleyworks_k73_whole_workshops.Holds := by
  w_on; o_law
  refine HandSHeadRun.head_any (r := OpenLaw.row PySem.Challenge.rw_pulleyworks_k73_whole_workshops) (q := view (OpenLaw.row PySem.Challenge.rw_pulleyworks_k73_whole_workshops).prog [66]) (H := K7.hkM) (ob := K7.obM) (M := 5600) (loose := K7.names) (d := HandSHeadRun.topDef (OpenLaw.row PySem.Challenge.rw_pulleyworks_k73_whole_workshops).prog 66) (kwd := []) K7.obM_eq
    (by kernel_rfl) (fun s => by kernel_rfl) K7.runM (by kernel_rfl) (by kernel_rfl) (by kernel_rfl) (by rfl) (by first | assumption | decide +kernel) (by decide +kernel) ⟨rfl, rfl, rfl, rfl, rfl, by decide +kernel⟩ ?hw ?hc
  case hw => w_witness2
  case hc =>
    refine L2.walk_ofE (l := PySem.Challenge.rw_pulleyworks_k73_whole_workshops) (n := 63) (k := 13) (x := "_law_script") (CX := L2.CX0) rfl (by decide) (by kernel_rfl) ⟨rfl, by decide, by decide⟩ ?F (fun _ _ _ _ z => z)
    intro w mg fa h Y G hmg0
    obtain ⟨K, KX, c⟩ := Y
    have hmg : mg ("law" : PySem.Str) = some (.ref fa) := by
      have e : (HandSHeadRun.topDef (OpenLaw.row PySem.Challenge.rw_pulleyworks_k73_whole_workshops).prog 66).name = ("law" : PySem.Str) := by kernel_rfl
      rw [← e]
      exact hmg0
    obtain ⟨fd, hb, hF⟩ := K7.facts (w := w) KX G hmg c
    exact ⟨K, fd, K7.spLaw K, KX, hb, fun H a ns hl _ hS => ⟨a, ns, rfl, hS, hl, fun _ => rfl⟩, hF⟩
