import PyProof.Rows.All
import Wide.All
import OpenK.AllK
import Wide.FinOn
import HandS.ForMost
import HandS.Exc
import HandS.Wide
import HandS.WideBits
import HandS.TupAny
import HandS.TupLe
import HandS.IsInst
import HandS.RaiseMore
import HandS.Property
import HandS.MakeKw
import HandS.Defaults
import HandS.SetFor
import HandS.Strs
import HandS.SortInts
import HandS.Style
import HandS.More
import HandS.Deep
import HandS.Text
import HandS.DeepEq
import HandS.DictEq
import HandS.DictComp
import HandS.ForExc
import HandS.TryMany
import HandS.ExcInit
import KE.KExcSuper
import KE.KSuper
import HandS.ExcField
import HandS.TupSets
import PyProof.StrLawsRepr
import KE.DataCmp
import HandS.Finally
import HandS.ListItems
import HandS.ExcOwn
import HandS.OwnEq
import HandS.SortOrd
import HandS.DictTup
import HandS.Head0
import HandS.Head1
import HandS.Head2
import HandS.HeadHook1
import HandS.HeadHook2
import HandS.HeadNt
import HandS.Conv
import KE.KDictDisplayH
import PyProof.ReprRoads
import HandS.StrMore
import HandS.Codes
import HandS.ExcValue
import HandS.ExcIs
import OpenK.KMore
import KE.KEqDict
import PyProof.DictFindH
import KE.SortData
import KE.KDictCopyH
import KE.KDictKeyed
import PySem.Challenge.RW_leafwaits_k14_rows_by_name
import KE.RegKIsAll
import KE.KStateDown
namespace PySem
namespace LeafX
open PySem.W PySem.Calls PyProof.Rows PySem.HandSPX
structure Ps where
  (p1 p2 p3 a1 a2 a3 a4 b1 b2 b3 b4 : Pos)
def iA (p : Ps) : Arguments := { posonlyargs := [], args := [{ arg := "self", annotation := none, pos := p.p1 }, { arg := "value", annotation := none, pos := p.p2 }], vararg := none, kwonlyargs := [], kw_defaults := [], kwarg := none, defaults := [.Constant .none 0 p.p3] }
def iB (p : Ps) : List Stmt := [.Expr (.Call (.Attribute (.Call (.Name "super" p.a1) [] [] p.a2) "__init__" p.a3) [] [] p.a4) p.a4, .Assign [.Attribute (.Name "self" p.b1) "value" p.b2] (.Name "value" p.b3) p.b4]
def iS : Scope := { kind := .function, names := [(PySem.Str.ofString "self", .local), (PySem.Str.ofString "value", .local), (PySem.Str.ofString "__class__", .free), (PySem.Str.ofString "super", .globalImplicit)], isGenerator := false, isCoroutine := false, more := [] }
end LeafX
end PySem
namespace LW
open PySem L2 PyProof.Rows
section
variable {K : PySem.W.Frag} {h : Heap} {mg : Str → Option Value} {x cn m qual : Str} {st : Stmt}
/-- a Bool that tells an equation -/
def eqB {α : Type} [DecidableEq α] (a b : α) : Bool := decide (a = b)
theorem eqB_ok {α : Type} [DecidableEq α] {a b : α} (h : eqB a b = true) : a = b := of_decide_eq_true h
theorem bsplit {a b : Bool} (h : (a && b) = true) : a = true ∧ b = true := Bool.and_eq_true_iff.mp h
/-- what isi1_mk asks -/
def isB (K : PySem.W.Frag) (cn : Str) : Bool := PySem.W.plainGet K (He.ga K cn) Str.empty && (PySem.W.hasDictIn K (He.ga K cn) && (PySem.W.plainOver K (He.ga K cn) && (He.eqO (PySem.W.findIn K (.ref (He.ga K cn)) "__setattr__") (some (some (.builtin "object.__setattr__"))) &&
  (He.eqO (PySem.W.findIn K (.ref (He.ga K cn)) "__class__") (some (some (.builtin "object.__class__"))) && (He.eqO (PySem.W.specialIn K (.builtin "object.__class__") "__get__") (some (some (.builtin "getset_descriptor.__get__"))) && (eqB (PySem.W.takesIn K (.builtin "object.__class__")) (some true) && (eqB (PySem.W.mroIn K (He.ga K cn) (.type "object")) (some true) &&
  (eqB (PySem.W.kitOne K (.ref (He.ga K cn)) (.ref (He.ga K cn))) (some true) && ((["int", "str", "list", "tuple", "dict", "bool", "NoneType"] : List String).all (fun t => eqB (PySem.W.kitOne K (.type t) (.ref (He.ga K cn))) (some false)) && (["int", "str", "list", "tuple", "dict", "bool"] : List String).all fun t => eqB (PySem.W.kitOne K (.ref (He.ga K cn)) (.type t)) (some false))))))))))
def nfB (K : PySem.W.Frag) (cn : Str) (cs : List Str) : Bool := cs.all (fun c => PySem.W.notFirst K (He.ga K cn) (.ref (He.ga K c))) && (["int", "str", "list", "tuple", "dict", "bool", "NoneType"] : List String).all fun t => PySem.W.notFirst K (He.ga K cn) (.type t)
end
end LW
namespace LW
open PySem PySem.W L2 PyProof.Rows
open PySem.LeafX PySem.HandSPX
/-- where __init__ of the class stands -/
def liA (K : Frag) (cn : Str) : Addr := He.ma K (He.ga K cn) "__init__"
abbrev LfV : Type := Option (Str × Str × Arguments × FuncBody × Scope × Addr × List Str × Addr)
def lfW (K : Frag) (cn : Str) : LfV := match K.lookup (liA K cn) with
  | some ⟨_, _, .func fd, _⟩ => some (fd.name, fd.qualname, fd.params, fd.body, fd.scope, fd.globals, fd.closure.map (·.1), fd.builtins)
  | _ => none
abbrev LfD : Type := Str × Str × Ps
def lfV (d : LfD) : LfV := some ("__init__", d.2.1, iA d.2.2, .stmts (iB d.2.2), iS, mainGlobals, ["__class__"], builtinsNs)
inductive Vt where
  | nil
  | node (b : Bool) (l r : Vt)
def Vt.has : Nat → Vt → Nat → Bool
  | 0, _, _ => false
  | _ + 1, .nil, _ => false
  | f + 1, .node b l r, n => match Nat.ble n 1 with
    | true => b
    | false => match Nat.beq (n % 2) 0 with
      | true => Vt.has f l (n / 2)
      | false => Vt.has f r (n / 2)
def Vt.put : Nat → Vt → Nat → Vt
  | 0, v, _ => v
  | f + 1, .nil, n => match Nat.ble n 1 with
    | true => .node true .nil .nil
    | false => match Nat.beq (n % 2) 0 with
      | true => .node false (Vt.put f .nil (n / 2)) .nil
      | false => .node false .nil (Vt.put f .nil (n / 2))
  | f + 1, .node b l r, n => match Nat.ble n 1 with
    | true => .node true l r
    | false => match Nat.beq (n % 2) 0 with
      | true => .node b (Vt.put f l (n / 2)) r
      | false => .node b l (Vt.put f r (n / 2))
def ddp : List Nat → Vt → List Nat
  | [], _ => []
  | a :: r, v => match Vt.has 40 v (a + 1) with
    | true => ddp r v
    | false => a :: ddp r (Vt.put 40 v (a + 1))
def asV (g : Addr → Option Obj) : Nat → List Addr
  | 0 => [mainGlobals, cStatics]
  | n + 1 => ddp (asV g n ++ (asV g n).flatMap fun a => match g a with
    | some o => He.refsD o
    | none => []) .nil
abbrev AlC : Type := He.AlD × Bool × List LfV
def obsC (n : Nat) (fa : List He.Fa) (fn : List He.DefD) (ln : List LfD) (ex : Frag → Bool) (g : Addr → Option Obj) : AlC := (He.obsD fa fn (He.frG g (asV g n)), ex (He.frG g (asV g n)), ln.map fun d => lfW (He.frG g (asV g n)) d.1)
/-- what the end leans on -/
structure SaysC (fa : List He.Fa) (fn : List He.DefD) (ln : List LfD) (ex : Frag → Bool) (K : Frag) : Prop where
  d : He.SaysD fa fn K
  ex : ex K = true
  l : (ln.map fun d => lfW K d.1) = ln.map lfV
def hookC (n : Nat) (fa : List He.Fa) (fn : List He.DefD) (ln : List LfD) (ex : Frag → Bool) : Hook where
  α := AlC
  obs := fun s => obsC n fa fn ln ex s.heap.get?
  val := fun _ => (He.valD fn, true, ln.map lfV)
  says := fun _ h => ∃ K : Frag, K.In h ∧ SaysC fa fn ln ex K
  of := fun _ _ e => ⟨_, He.frG_in, congrArg (fun z : AlC => z.1) e, congrArg (fun z : AlC => z.2.1) e, congrArg (fun z : AlC => z.2.2) e⟩
  keeps := fun _ _ _ ⟨K, hK, c⟩ k => ⟨K, Frag.In.keeps hK k, c⟩
theorem obsC_eq {n : Nat} {fa : List He.Fa} {fn : List He.DefD} {ln : List LfD} {ex : Frag → Bool} {g : Addr → Option Obj} {s : Shared} (h : ∀ a, g a = s.heap.get? a) : obsC n fa fn ln ex g = (hookC n fa fn ln ex).obs s := by
  have e : g = s.heap.get? := funext h
  rw [e] <;> rfl
def andL : List Bool → Bool
  | [] => true
  | b :: r => b && andL r
end LW
namespace K14
open PySem L2 LW PyProof.Rows
def topS (i : Nat) : Stmt := PySem.Challenge.pw_leafwaits_k14_rows_by_name.main.body.getD i (.Pass ⟨0, 0, 0, 0⟩)
abbrev CS : List Str := ["Rule"]
abbrev s_is_whole : Stmt := topS 10
abbrev s_is_name : Stmt := topS 9
abbrev s_is_term : Stmt := topS 36
abbrev s_are_terms : Stmt := topS 35
abbrev s_is_part : Stmt := topS 37
abbrev s_with_inside : Stmt := topS 38
abbrev s_copied : Stmt := topS 39
abbrev s_Rule___init__ : Stmt := inClass (topS 34) 0
abbrev s_check_rule : Stmt := topS 40
abbrev s_parts_from : Stmt := topS 44
abbrev s_names_by : Stmt := topS 41
abbrev s_check_flat : Stmt := topS 42
abbrev s_is_within : Stmt := topS 14
abbrev s_without_row : Stmt := topS 57
abbrev s_row_of_t : Stmt := topS 15
abbrev s_dict_of_t : Stmt := topS 16
abbrev s_in_order_t : Stmt := topS 17
abbrev s_is_within_t : Stmt := topS 14
abbrev s_kept_t : Stmt := topS 18
abbrev s_joined : Stmt := topS 19
abbrev s_all_joined : Stmt := topS 21
abbrev s_picked : Stmt := topS 22
abbrev s_letter_rows : Stmt := topS 23
abbrev s_name_rows : Stmt := topS 24
abbrev s_canonical : Stmt := topS 47
abbrev s_never_behind : Stmt := topS 58
abbrev s_mirrored_term : Stmt := topS 43
abbrev s_row_of : Stmt := topS 15
abbrev s_turned : Stmt := topS 20
abbrev s_columns : Stmt := topS 52
abbrev s_names_in : Stmt := topS 50
abbrev s_matters : Stmt := topS 51
abbrev s_rows : Stmt := topS 49
abbrev s_Rule___eq__ : Stmt := inClass (topS 34) 2
abbrev s_is_row : Stmt := topS 53
abbrev s_check_rows : Stmt := topS 54
abbrev s_dict_of : Stmt := topS 16
abbrev s_in_order : Stmt := topS 17
abbrev s_kept : Stmt := topS 18
abbrev s_alone_or : Stmt := topS 29
abbrev s_term_of_row : Stmt := topS 30
abbrev s_term_of_columns : Stmt := topS 32
abbrev s_of_columns : Stmt := topS 56
abbrev s_term_of_rows : Stmt := topS 31
abbrev s_of_rows : Stmt := topS 55
abbrev s_alike : Stmt := topS 59
abbrev s_hours_for : Stmt := topS 27
abbrev s_far_hour : Stmt := topS 28
abbrev s_standing : Stmt := topS 48
abbrev s_behind_hours : Stmt := topS 60
abbrev s_parting : Stmt := topS 61
abbrev s_row_hour : Stmt := topS 25
abbrev s_least_hour : Stmt := topS 26
abbrev s_less_told : Stmt := topS 63
abbrev s_is_hours : Stmt := topS 11
abbrev s_are_hours : Stmt := topS 62
abbrev s_check_parting : Stmt := topS 64
abbrev s_reasons : Stmt := topS 65
abbrev s_is_pair : Stmt := topS 66
abbrev s_is_reasons : Stmt := topS 67
abbrev s_lots_by_size : Stmt := topS 77
abbrev s_left_term : Stmt := topS 45
abbrev s_lean : Stmt := topS 78
abbrev s_marked_term : Stmt := topS 75
abbrev s_most_or_none : Stmt := topS 71
abbrev s_less_of : Stmt := topS 72
abbrev s_more_of : Stmt := topS 73
abbrev s_least_or_none : Stmt := topS 70
abbrev s_slack_of : Stmt := topS 74
abbrev s_slack : Stmt := topS 76
abbrev s_check_hours : Stmt := topS 12
abbrev s_telling : Stmt := topS 68
abbrev s_alone : Stmt := topS 69
abbrev s__law_right : Stmt := topS 80
abbrev s_law : Stmt := topS 81
def dfd (a : PySem.Str × Option PySem.Str) (n qn : PySem.Str) (st : Stmt) (dv : List He.Dv) : He.DefD := ⟨a, n, qn, defArgs st, defBody st, defScope st, dv, []⟩
def hnames0 : List PySem.Str := [("__name__" : PySem.Str), ("LeafError" : PySem.Str), ("InvalidTerm" : PySem.Str), ("InvalidRule" : PySem.Str), ("NotFlat" : PySem.Str), ("InvalidRows" : PySem.Str), ("InvalidHours" : PySem.Str), ("LETTERS" : PySem.Str), ("is_name" : PySem.Str), ("is_whole" : PySem.Str)]
def hnames1 : List PySem.Str := [("is_hours" : PySem.Str), ("check_hours" : PySem.Str), ("is_within" : PySem.Str), ("row_of" : PySem.Str), ("dict_of" : PySem.Str), ("in_order" : PySem.Str), ("kept" : PySem.Str), ("joined" : PySem.Str), ("turned" : PySem.Str), ("all_joined" : PySem.Str)]
def hnames2 : List PySem.Str := [("picked" : PySem.Str), ("letter_rows" : PySem.Str), ("name_rows" : PySem.Str), ("row_hour" : PySem.Str), ("least_hour" : PySem.Str), ("hours_for" : PySem.Str), ("far_hour" : PySem.Str), ("alone_or" : PySem.Str), ("term_of_row" : PySem.Str), ("term_of_rows" : PySem.Str)]
def hnames3 : List PySem.Str := [("term_of_columns" : PySem.Str), ("Rule" : PySem.Str), ("are_terms" : PySem.Str), ("is_term" : PySem.Str), ("is_part" : PySem.Str), ("with_inside" : PySem.Str), ("copied" : PySem.Str), ("check_rule" : PySem.Str), ("names_by" : PySem.Str), ("check_flat" : PySem.Str)]
def hnames4 : List PySem.Str := [("mirrored_term" : PySem.Str), ("parts_from" : PySem.Str), ("left_term" : PySem.Str), ("canonical" : PySem.Str), ("standing" : PySem.Str), ("rows" : PySem.Str), ("names_in" : PySem.Str), ("matters" : PySem.Str), ("columns" : PySem.Str), ("is_row" : PySem.Str)]
def hnames5 : List PySem.Str := [("check_rows" : PySem.Str), ("of_rows" : PySem.Str), ("of_columns" : PySem.Str), ("without_row" : PySem.Str), ("never_behind" : PySem.Str), ("alike" : PySem.Str), ("behind_hours" : PySem.Str), ("parting" : PySem.Str), ("are_hours" : PySem.Str), ("less_told" : PySem.Str)]
def hnames6 : List PySem.Str := [("check_parting" : PySem.Str), ("reasons" : PySem.Str), ("is_pair" : PySem.Str), ("is_reasons" : PySem.Str), ("telling" : PySem.Str), ("alone" : PySem.Str), ("least_or_none" : PySem.Str), ("most_or_none" : PySem.Str), ("less_of" : PySem.Str), ("more_of" : PySem.Str)]
def hnames7 : List PySem.Str := [("slack_of" : PySem.Str), ("marked_term" : PySem.Str), ("slack" : PySem.Str), ("lots_by_size" : PySem.Str), ("lean" : PySem.Str), ("_law_right" : PySem.Str)]
def hnames : List PySem.Str := hnames0 ++ (hnames1 ++ (hnames2 ++ (hnames3 ++ (hnames4 ++ (hnames5 ++ (hnames6 ++ (hnames7)))))))
def D0 : He.DefD := dfd ("Rule", some "__eq__") "__eq__" "Rule.__eq__" (s_Rule___eq__) []
def D1 : He.DefD := dfd ("Rule", some "__init__") "__init__" "Rule.__init__" (s_Rule___init__) []
def D2 : He.DefD := dfd ("_law_right", none) "_law_right" "_law_right" (s__law_right) []
def D3 : He.DefD := dfd ("alike", none) "alike" "alike" (s_alike) []
def D4 : He.DefD := dfd ("all_joined", none) "all_joined" "all_joined" (s_all_joined) []
def D5 : He.DefD := dfd ("alone", none) "alone" "alone" (s_alone) []
def D6 : He.DefD := dfd ("alone_or", none) "alone_or" "alone_or" (s_alone_or) []
def D7 : He.DefD := dfd ("are_hours", none) "are_hours" "are_hours" (s_are_hours) []
def D8 : He.DefD := dfd ("are_terms", none) "are_terms" "are_terms" (s_are_terms) []
def D9 : He.DefD := dfd ("behind_hours", none) "behind_hours" "behind_hours" (s_behind_hours) []
def D10 : He.DefD := dfd ("canonical", none) "canonical" "canonical" (s_canonical) []
def D11 : He.DefD := dfd ("check_flat", none) "check_flat" "check_flat" (s_check_flat) []
def D12 : He.DefD := dfd ("check_hours", none) "check_hours" "check_hours" (s_check_hours) []
def D13 : He.DefD := dfd ("check_parting", none) "check_parting" "check_parting" (s_check_parting) []
def D14 : He.DefD := dfd ("check_rows", none) "check_rows" "check_rows" (s_check_rows) []
def D15 : He.DefD := dfd ("check_rule", none) "check_rule" "check_rule" (s_check_rule) []
def D16 : He.DefD := dfd ("columns", none) "columns" "columns" (s_columns) []
def D17 : He.DefD := dfd ("copied", none) "copied" "copied" (s_copied) []
def D18 : He.DefD := dfd ("dict_of", none) "dict_of" "dict_of" (s_dict_of) []
def D19 : He.DefD := dfd ("far_hour", none) "far_hour" "far_hour" (s_far_hour) []
def D20 : He.DefD := dfd ("hours_for", none) "hours_for" "hours_for" (s_hours_for) []
def D21 : He.DefD := dfd ("in_order", none) "in_order" "in_order" (s_in_order) []
def D22 : He.DefD := dfd ("is_hours", none) "is_hours" "is_hours" (s_is_hours) []
def D23 : He.DefD := dfd ("is_name", none) "is_name" "is_name" (s_is_name) []
def D24 : He.DefD := dfd ("is_pair", none) "is_pair" "is_pair" (s_is_pair) []
def D25 : He.DefD := dfd ("is_part", none) "is_part" "is_part" (s_is_part) []
def D26 : He.DefD := dfd ("is_reasons", none) "is_reasons" "is_reasons" (s_is_reasons) []
def D27 : He.DefD := dfd ("is_row", none) "is_row" "is_row" (s_is_row) []
def D28 : He.DefD := dfd ("is_term", none) "is_term" "is_term" (s_is_term) []
def D29 : He.DefD := dfd ("is_whole", none) "is_whole" "is_whole" (s_is_whole) []
def D30 : He.DefD := dfd ("is_within", none) "is_within" "is_within" (s_is_within) []
def D31 : He.DefD := dfd ("joined", none) "joined" "joined" (s_joined) []
def D32 : He.DefD := dfd ("kept", none) "kept" "kept" (s_kept) []
def D33 : He.DefD := dfd ("law", none) "law" "law" (s_law) []
def D34 : He.DefD := dfd ("lean", none) "lean" "lean" (s_lean) []
def D35 : He.DefD := dfd ("least_hour", none) "least_hour" "least_hour" (s_least_hour) []
def D36 : He.DefD := dfd ("least_or_none", none) "least_or_none" "least_or_none" (s_least_or_none) []
def D37 : He.DefD := dfd ("left_term", none) "left_term" "left_term" (s_left_term) []
def D38 : He.DefD := dfd ("less_of", none) "less_of" "less_of" (s_less_of) []
def D39 : He.DefD := dfd ("less_told", none) "less_told" "less_told" (s_less_told) []
def D40 : He.DefD := dfd ("letter_rows", none) "letter_rows" "letter_rows" (s_letter_rows) []
def D41 : He.DefD := dfd ("lots_by_size", none) "lots_by_size" "lots_by_size" (s_lots_by_size) []
def D42 : He.DefD := dfd ("marked_term", none) "marked_term" "marked_term" (s_marked_term) []
def D43 : He.DefD := dfd ("matters", none) "matters" "matters" (s_matters) []
def D44 : He.DefD := dfd ("mirrored_term", none) "mirrored_term" "mirrored_term" (s_mirrored_term) []
def D45 : He.DefD := dfd ("more_of", none) "more_of" "more_of" (s_more_of) []
def D46 : He.DefD := dfd ("most_or_none", none) "most_or_none" "most_or_none" (s_most_or_none) []
def D47 : He.DefD := dfd ("name_rows", none) "name_rows" "name_rows" (s_name_rows) []
def D48 : He.DefD := dfd ("names_by", none) "names_by" "names_by" (s_names_by) []
def D49 : He.DefD := dfd ("names_in", none) "names_in" "names_in" (s_names_in) []
def D50 : He.DefD := dfd ("never_behind", none) "never_behind" "never_behind" (s_never_behind) []
def D51 : He.DefD := dfd ("of_columns", none) "of_columns" "of_columns" (s_of_columns) []
def D52 : He.DefD := dfd ("of_rows", none) "of_rows" "of_rows" (s_of_rows) []
def D53 : He.DefD := dfd ("parting", none) "parting" "parting" (s_parting) []
def D54 : He.DefD := dfd ("parts_from", none) "parts_from" "parts_from" (s_parts_from) []
def D55 : He.DefD := dfd ("picked", none) "picked" "picked" (s_picked) []
def D56 : He.DefD := dfd ("reasons", none) "reasons" "reasons" (s_reasons) []
def D57 : He.DefD := dfd ("row_hour", none) "row_hour" "row_hour" (s_row_hour) []
def D58 : He.DefD := dfd ("row_of", none) "row_of" "row_of" (s_row_of) []
def D59 : He.DefD := dfd ("rows", none) "rows" "rows" (s_rows) []
def D60 : He.DefD := dfd ("slack", none) "slack" "slack" (s_slack) []
def D61 : He.DefD := dfd ("slack_of", none) "slack_of" "slack_of" (s_slack_of) []
def D62 : He.DefD := dfd ("standing", none) "standing" "standing" (s_standing) []
def D63 : He.DefD := dfd ("telling", none) "telling" "telling" (s_telling) []
def D64 : He.DefD := dfd ("term_of_columns", none) "term_of_columns" "term_of_columns" (s_term_of_columns) []
def D65 : He.DefD := dfd ("term_of_row", none) "term_of_row" "term_of_row" (s_term_of_row) []
def D66 : He.DefD := dfd ("term_of_rows", none) "term_of_rows" "term_of_rows" (s_term_of_rows) []
def D67 : He.DefD := dfd ("turned", none) "turned" "turned" (s_turned) []
def D68 : He.DefD := dfd ("with_inside", none) "with_inside" "with_inside" (s_with_inside) []
def D69 : He.DefD := dfd ("without_row", none) "without_row" "without_row" (s_without_row) []
def hfa0 : List He.Fa := [.meth "Rule" "__eq__", .mkr "Rule", .glo "_law_right", .glo "alike", .glo "all_joined", .glo "alone", .glo "alone_or", .glo "are_hours", .glo "are_terms", .glo "behind_hours"]
def hfa1 : List He.Fa := [.glo "canonical", .glo "check_flat", .glo "check_hours", .glo "check_parting", .glo "check_rows", .glo "check_rule", .glo "columns", .glo "copied", .glo "dict_of", .glo "far_hour"]
def hfa2 : List He.Fa := [.glo "hours_for", .glo "in_order", .glo "is_hours", .glo "is_name", .glo "is_pair", .glo "is_part", .glo "is_reasons", .glo "is_row", .glo "is_term", .glo "is_whole"]
def hfa3 : List He.Fa := [.glo "is_within", .glo "joined", .glo "kept", .glo "law", .glo "lean", .glo "least_hour", .glo "least_or_none", .glo "left_term", .glo "less_of", .glo "less_told"]
def hfa4 : List He.Fa := [.glo "letter_rows", .glo "lots_by_size", .glo "marked_term", .glo "matters", .glo "mirrored_term", .glo "more_of", .glo "most_or_none", .glo "name_rows", .glo "names_by", .glo "names_in"]
def hfa5 : List He.Fa := [.glo "never_behind", .glo "of_columns", .glo "of_rows", .glo "parting", .glo "parts_from", .glo "picked", .glo "reasons", .glo "row_hour", .glo "row_of", .glo "rows"]
def hfa6 : List He.Fa := [.glo "slack", .glo "slack_of", .glo "standing", .glo "telling", .glo "term_of_columns", .glo "term_of_row", .glo "term_of_rows", .glo "turned", .glo "with_inside", .glo "without_row"]
def hfa7 : List He.Fa := [.noat "Rule" "form", .glo "Rule", .str "LETTERS" "abcdefghijklmnopqrstuvwxyz", .cls "Rule", .free "bool", .free "dict", .free "enumerate", .free "int", .free "isinstance", .free "len"]
def hfa8 : List He.Fa := [.free "list", .free "max", .free "min", .free "range", .free "set", .free "sorted", .free "str", .free "sum", .free "tuple"]
def hfa : List He.Fa := hfa0 ++ (hfa1 ++ (hfa2 ++ (hfa3 ++ (hfa4 ++ (hfa5 ++ (hfa6 ++ (hfa7 ++ (hfa8))))))))
def hfn0 : List He.DefD := [D0, D1, D2, D3, D4, D5, D6, D7, D8, D9]
def hfn1 : List He.DefD := [D10, D11, D12, D13, D14, D15, D16, D17, D18, D19]
def hfn2 : List He.DefD := [D20, D21, D22, D23, D24, D25, D26, D27, D28, D29]
def hfn3 : List He.DefD := [D30, D31, D32, D33, D34, D35, D36, D37, D38, D39]
def hfn4 : List He.DefD := [D40, D41, D42, D43, D44, D45, D46, D47, D48, D49]
def hfn5 : List He.DefD := [D50, D51, D52, D53, D54, D55, D56, D57, D58, D59]
def hfn6 : List He.DefD := [D60, D61, D62, D63, D64, D65, D66, D67, D68, D69]
def hfn : List He.DefD := hfn0 ++ (hfn1 ++ (hfn2 ++ (hfn3 ++ (hfn4 ++ (hfn5 ++ (hfn6))))))
def hln0 : List LfD := []
def hln : List LfD := hln0
def hex0 (K : PySem.W.Frag) : List Bool := [isB K "Rule", eqB (PySem.W.findIn K (.ref (He.ga K "Rule")) "__ne__") (some (some (.builtin "object.__ne__"))), nfB K "Rule" ["Rule"], eqB (PySem.W.mroIn K (He.ga K "Rule") (.type "object")) (some true)]
def hexl (K : PySem.W.Frag) : List Bool := hex0 K
def hex (K : PySem.W.Frag) : Bool := andL (hexl K)
abbrev HR : PySem.W.OpenRow := PySem.W.OpenLaw.row PySem.Challenge.rw_leafwaits_k14_rows_by_name
abbrev hk : PySem.W.Hook := hookC 5 hfa hfn hln hex
def hob (s : PySem.W.SharedT) : AlC := obsC 5 hfa hfn hln hex (HandSHeadRun.getT s)
theorem hob_eq (s : PySem.W.SharedT) : hob s = hk.obs s.abs := obsC_eq (HandSHeadRun.getT_eq s)
set_option maxHeartbeats 0 in
theorem hrun (w : World) : HandSHeadRun.RunEq HR (PySem.W.view HR.prog [81]) hk hob 12000 hnames w := by
  intro os
  kernel_rfl
end K14
set_option Elab.async false
set_option linter.all false
set_option maxRecDepth 100000
set_option maxHeartbeats 4000000
/-! LwA: plain data for what stands in the heap; the relation of an environment of plain data with a frame; readings by plain functions. -/
namespace LW
open PySem L2

/-- plain data. fro: a list that nobody may write; cell k, dcl k, ocl k: the k-th thing that may still change: a list, a dict, an instance; obj: an instance that changes no more -/
inductive D where
  | non | bl (b : Bool) | int (i : Int) | str (x : Str) | ty (n : String)
  | tup (xs : List D) | lst (xs : List D) | fro (xs : List D) | cell (k : Nat)
  | obj (c : Str) (ns : List Str) (vs : List D) | cls (c : Str)
  | dic (ks : List Key) (vs : List D) | dit (ks : List (List Key)) (vs : List D)
  | dcl (k : Nat) | ocl (k : Nat) | hid (o : HO) | err (c : Str) (vs : List D)
  deriving Inhabited

/-- what the module's names hold; the written part -/
structure Glob where
  mg : Str → Option Value
  K : PySem.W.Frag
/-- the protected addresses: they may still change -/
abbrev Prot := Addr → Prop
abbrev Sto := List (List D)

/-- an error of the class at C, its dict (none | at d), that is handed about -/
def ErO (C : Addr) (d : Option Addr) (a : Addr) : HO := .ext fun h => ∃ (oe : Obj) (vs : Array Value), h.get? a = some oe ∧ Zc (.ref C) d oe ∧ oe.data = .fields vs
theorem ero_dK {C : Addr} {d : Option Addr} {a : Addr} {kvs : List (Key × V)} : ErO C d a ≠ .dK kvs := fun z => by
  have z' : HO.ext _ = HO.dK kvs := z
  cases z'
theorem ero_dT {C : Addr} {d : Option Addr} {a : Addr} {kvs : List (List Key × V)} : ErO C d a ≠ .dT kvs := fun z => by
  have z' : HO.ext _ = HO.dT kvs := z
  cases z'
theorem ero_frz {C : Addr} {d : Option Addr} {a : Addr} {o : Obj} {u : HO} : ErO C d a ≠ .frz o u := fun z => by
  have z' : HO.ext _ = HO.frz o u := z
  cases z'
mutual
inductive Rep (mg : Glob) (N : Prot) (c : List Addr) (H : Hp) : V → D → Prop where
  | non : Rep mg N c H .non .non
  | bl (b : Bool) : Rep mg N c H (.bl b) (.bl b)
  | int (i : Int) : Rep mg N c H (.int i) (.int i)
  | str (x : Str) : Rep mg N c H (.str x) (.str x)
  | ty (n : String) : Rep mg N c H (.ty n) (.ty n)
  | cls {cn : Str} {C : Addr} (h : mg.mg cn = some (.ref C)) : Rep mg N c H (.ref C) (.cls cn)
  | tup {a : Addr} {vs : List V} {ds : List D} (h : H a = some (.tup vs)) (r : RepL mg N c H vs ds) : Rep mg N c H (.ref a) (.tup ds)
  | lst {a : Addr} {vs : List V} {ds : List D} (h : H a = some (.lst vs)) (n : ¬ N a) (r : RepL mg N c H vs ds) : Rep mg N c H (.ref a) (.lst ds)
  | fro {a : Addr} {o : Obj} {vs : List V} {ds : List D} (h : H a = some (.frz o (.lst vs))) (n : ¬ N a) (r : RepL mg N c H vs ds) : Rep mg N c H (.ref a) (.fro ds)
  | kro {a : Addr} {ns : List Int} (h : ∀ H' : Hp, SqL mg.K H' a (ns.map V.int)) : Rep mg N c H (.ref a) (.fro (ns.map D.int))
  | cell {k : Nat} {a : Addr} (h : c[k]? = some a) : Rep mg N c H (.ref a) (.cell k)
  | dcl {k : Nat} {a : Addr} (h : c[k]? = some a) : Rep mg N c H (.ref a) (.dcl k)
  | ocl {k : Nat} {a : Addr} (h : c[k]? = some a) : Rep mg N c H (.ref a) (.ocl k)
  | obj {a C dx : Addr} {fs : List (Str × V)} {cn : Str} {ns : List Str} {ds : List D} (hc : mg.mg cn = some (.ref C)) (h : H a = some (.ins C dx fs)) (n : ¬ N a) (hn : fs.map (·.1) = ns) (r : RepL mg N c H (fs.map (·.2)) ds) : Rep mg N c H (.ref a) (.obj cn ns ds)
  | dic {a : Addr} {kvs : List (Key × V)} {ks : List Key} {ds : List D} (h : H a = some (.dK kvs)) (n : ¬ N a) (hn : kvs.map (·.1) = ks) (r : RepL mg N c H (kvs.map (·.2)) ds) : Rep mg N c H (.ref a) (.dic ks ds)
  | dfz {a : Addr} {o : Obj} {kvs : List (Key × V)} {ks : List Key} {ds : List D} (h : H a = some (.frz o (.dK kvs))) (n : ¬ N a) (hn : kvs.map (·.1) = ks) (r : RepL mg N c H (kvs.map (·.2)) ds) : Rep mg N c H (.ref a) (.dic ks ds)
  | dit {a : Addr} {kvs : List (List Key × V)} {ks : List (List Key)} {ds : List D} (h : H a = some (.dT kvs)) (n : ¬ N a) (hn : kvs.map (·.1) = ks) (r : RepL mg N c H (kvs.map (·.2)) ds) : Rep mg N c H (.ref a) (.dit ks ds)
  | ditz {a : Addr} {o : Obj} {kvs : List (List Key × V)} {ks : List (List Key)} {ds : List D} (h : H a = some (.frz o (.dT kvs))) (n : ¬ N a) (hn : kvs.map (·.1) = ks) (r : RepL mg N c H (kvs.map (·.2)) ds) : Rep mg N c H (.ref a) (.dit ks ds)
  | err0 {a C : Addr} {cn : Str} (hc : mg.mg cn = some (.ref C)) (h : H a = some (ErO C none a)) (n : ¬ N a) : Rep mg N c H (.ref a) (.err cn [])
  | err1 {a C dx : Addr} {cn : Str} {v : V} {d : D} (hc : mg.mg cn = some (.ref C)) (h : H a = some (ErO C (some dx) a)) (n : ¬ N a) (hd : H dx = some (.xd [(("value" : Str), v)])) (nd : ¬ N dx) (r : Rep mg N c H v d) : Rep mg N c H (.ref a) (.err cn [d])
inductive RepL (mg : Glob) (N : Prot) (c : List Addr) (H : Hp) : List V → List D → Prop where
  | nil : RepL mg N c H [] []
  | cons {v : V} {d : D} {vs : List V} {ds : List D} (h : Rep mg N c H v d) (t : RepL mg N c H vs ds) : RepL mg N c H (v :: vs) (d :: ds)
end

/-- a step of the heap as data sees it -/
structure Tr (N : Prot) (c : List Addr) (H : Hp) (N' : Prot) (c' : List Addr) (H' : Hp) : Prop where
  keep : ∀ a o, H a = some o → ¬ N a → H' a = some o
  new : ∀ a, N' a → N a ∨ H a = none
  pre : ∀ (k : Nat) a, c[k]? = some a → c'[k]? = some a
  tup : ∀ a vs, H a = some (.tup vs) → H' a = some (.tup vs)
section
variable {mg : Glob} {N N' : Prot} {c c' : List Addr} {H H' : Hp}
theorem Tr.own (t : Tr N c H N' c' H') {a : Addr} {u : HO} (h : H a = some u) (n : ¬ N a) : H' a = some u ∧ ¬ N' a :=
  ⟨t.keep _ _ h n, fun z => (t.new a z).elim n fun e => by rw [h] at e; cases e⟩
mutual
theorem Rep.tr {v : V} {d : D} (t : Tr N c H N' c' H') : Rep mg N c H v d → Rep mg N' c' H' v d
  | .non => .non
  | .bl b => .bl b
  | .int i => .int i
  | .str x => .str x
  | .ty n => .ty n
  | .cls h => .cls h
  | .tup h r => .tup (t.tup _ _ h) (RepL.tr t r)
  | .lst h n r => .lst (t.own h n).1 (t.own h n).2 (RepL.tr t r)
  | .fro h n r => .fro (t.own h n).1 (t.own h n).2 (RepL.tr t r)
  | .kro h => .kro h
  | .cell h => .cell (t.pre _ _ h)
  | .dcl h => .dcl (t.pre _ _ h)
  | .ocl h => .ocl (t.pre _ _ h)
  | .obj hc h n hn r => .obj hc (t.own h n).1 (t.own h n).2 hn (RepL.tr t r)
  | .dic h n hn r => .dic (t.own h n).1 (t.own h n).2 hn (RepL.tr t r)
  | .dfz h n hn r => .dfz (t.own h n).1 (t.own h n).2 hn (RepL.tr t r)
  | .dit h n hn r => .dit (t.own h n).1 (t.own h n).2 hn (RepL.tr t r)
  | .ditz h n hn r => .ditz (t.own h n).1 (t.own h n).2 hn (RepL.tr t r)
  | .err0 hc h n => .err0 hc (t.own h n).1 (t.own h n).2
  | .err1 hc h n hd nd r => .err1 hc (t.own h n).1 (t.own h n).2 (t.own hd nd).1 (t.own hd nd).2 (Rep.tr t r)
theorem RepL.tr {vs : List V} {ds : List D} (t : Tr N c H N' c' H') : RepL mg N c H vs ds → RepL mg N' c' H' vs ds
  | .nil => .nil
  | .cons h r => .cons (Rep.tr t h) (RepL.tr t r)
end
theorem RepL.length {vs : List V} {ds : List D} : RepL mg N c H vs ds → vs.length = ds.length
  | .nil => rfl
  | .cons _ r => by rw [List.length_cons, List.length_cons, RepL.length r]
theorem RepL.get {vs : List V} {ds : List D} : ∀ {i : Nat} {d : D}, RepL mg N c H vs ds → ds[i]? = some d → ∃ v, vs[i]? = some v ∧ Rep mg N c H v d
  | _, _, .nil, e => by simp at e
  | 0, _, .cons h _, e => by simp at e; subst e; exact ⟨_, rfl, h⟩
  | i + 1, d, .cons _ r, e => by
    obtain ⟨v, h1, h2⟩ := RepL.get (i := i) (d := d) r (by simpa using e)
    exact ⟨v, by simpa using h1, h2⟩
theorem RepL.getV {vs : List V} {ds : List D} : ∀ {i : Nat} {v : V}, RepL mg N c H vs ds → vs[i]? = some v → ∃ d, ds[i]? = some d ∧ Rep mg N c H v d
  | _, _, .nil, e => by simp at e
  | 0, _, .cons h _, e => by simp at e; subst e; exact ⟨_, rfl, h⟩
  | i + 1, v, .cons _ r, e => by
    obtain ⟨d, h1, h2⟩ := RepL.getV (i := i) (v := v) r (by simpa using e)
    exact ⟨d, by simpa using h1, h2⟩
theorem RepL.append {vs us : List V} {ds es : List D} : RepL mg N c H vs ds → RepL mg N c H us es → RepL mg N c H (vs ++ us) (ds ++ es)
  | .nil, s => s
  | .cons h r, s => .cons h (RepL.append r s)
theorem RepL.take {vs : List V} {ds : List D} : ∀ (n : Nat), RepL mg N c H vs ds → RepL mg N c H (vs.take n) (ds.take n)
  | 0, _ => .nil
  | _ + 1, .nil => .nil
  | n + 1, .cons h r => .cons h (RepL.take n r)
theorem RepL.drop {vs : List V} {ds : List D} : ∀ (n : Nat), RepL mg N c H vs ds → RepL mg N c H (vs.drop n) (ds.drop n)
  | 0, r => r
  | _ + 1, .nil => .nil
  | n + 1, .cons _ r => RepL.drop n r
theorem RepL.set {v : V} {d : D} (h : Rep mg N c H v d) {vs : List V} {ds : List D} : ∀ (n : Nat), RepL mg N c H vs ds → RepL mg N c H (vs.set n v) (ds.set n d)
  | _, .nil => .nil
  | 0, .cons _ r => .cons h r
  | n + 1, .cons q r => .cons q (RepL.set h n r)
theorem RepL.reverse {vs : List V} {ds : List D} : RepL mg N c H vs ds → RepL mg N c H vs.reverse ds.reverse
  | .nil => .nil
  | .cons h r => by
    rw [List.reverse_cons, List.reverse_cons]
    exact (RepL.reverse r).append (.cons h .nil)
theorem RepL.ints : ∀ (ns : List Int), RepL mg N c H (ns.map V.int) (ns.map D.int)
  | [] => .nil
  | n :: r => .cons (.int n) (RepL.ints r)
theorem RepL.of_ints : ∀ {ns : List Int} {vs : List V}, RepL mg N c H vs (ns.map D.int) → vs = ns.map V.int
  | [], _, .nil => rfl
  | n :: r, _, .cons (.int _) t => by rw [RepL.of_ints t]; rfl
end

/-- what stands at the head of a cell that is no list: nothing is told by it -/
def tagD : D := .dit [[]] []
def isTag : List D → Bool
  | .dit [_] [] :: _ => true
  | _ => false
theorem RepL.noTag {mg : Glob} {N : Prot} {c : List Addr} {H : Hp} {vs : List V} {xs : List D} (r : RepL mg N c H vs xs) : isTag xs = false := by
  cases r with
  | nil => rfl
  | cons h t =>
    have go : ∀ (kvs : List (List Key × V)) (ks : List (List Key)) (ds ds0 : List D), kvs.map (·.1) = ks → RepL mg N c H (kvs.map (·.2)) ds → isTag (.dit ks ds :: ds0) = false := fun kvs ks ds ds0 hn r2 => by
      have l1 := congrArg List.length hn
      have l2 := r2.length
      rw [List.length_map] at l1 l2
      clear hn r2
      cases ds with
      | nil =>
        cases ks with
        | nil => rfl
        | cons _ _ => exact absurd (l1.symm.trans l2) (by simp)
      | cons _ _ =>
        cases ks with
        | nil => rfl
        | cons _ ks => cases ks <;> rfl
    cases h with
    | dit hh nn hn r2 => exact go _ _ _ _ hn r2
    | ditz hh nn hn r2 => exact go _ _ _ _ hn r2
    | _ => rfl
/-- what a cell holds -/
inductive CRep (mg : Glob) (N : Prot) (c : List Addr) (H : Hp) : HO → List D → Prop where
  | l {vs : List V} {xs : List D} (r : RepL mg N c H vs xs) : CRep mg N c H (.lst vs) xs
  | k {kvs : List (Key × V)} {ds : List D} (r : RepL mg N c H (kvs.map (·.2)) ds) : CRep mg N c H (.dK kvs) [tagD, .dic (kvs.map (·.1)) ds]
  | kz {od : Obj} {kvs : List (Key × V)} {ds : List D} (r : RepL mg N c H (kvs.map (·.2)) ds) : CRep mg N c H (.frz od (.dK kvs)) [tagD, .dic (kvs.map (·.1)) ds, .hid (.frz od (.dK kvs))]
  | t {kvs : List (List Key × V)} {ds : List D} (r : RepL mg N c H (kvs.map (·.2)) ds) : CRep mg N c H (.dT kvs) [tagD, .dit (kvs.map (·.1)) ds]
  | i {C dx : Addr} {cn : Str} {fs : List (Str × V)} {ds : List D} (hc : mg.mg cn = some (.ref C)) (r : RepL mg N c H (fs.map (·.2)) ds) : CRep mg N c H (.ins C dx fs) [tagD, .obj cn (fs.map (·.1)) ds]
theorem CRep.tr {mg : Glob} {N N' : Prot} {c c' : List Addr} {H H' : Hp} {o : HO} {xs : List D} (t : Tr N c H N' c' H') : CRep mg N c H o xs → CRep mg N' c' H' o xs
  | .l r => .l (r.tr t)
  | .k r => .k (r.tr t)
  | .kz r => .kz (r.tr t)
  | .t r => .t (r.tr t)
  | .i hc r => .i hc (r.tr t)
theorem CRep.lst {mg : Glob} {N : Prot} {c : List Addr} {H : Hp} {o : HO} {xs : List D} (h : CRep mg N c H o xs) (nt : isTag xs = false) : ∃ vs, o = .lst vs ∧ RepL mg N c H vs xs := by
  cases h with
  | l r => exact ⟨_, rfl, r⟩
  | k r => cases nt
  | kz r => cases nt
  | t r => cases nt
  | i hc r => cases nt
/-- a step of an expression: all that is no cell stays -/
structure Ex (N : Prot) (c : List Addr) (H : Hp) (N' : Prot) (c' : List Addr) (H' : Hp) : Prop where
  keep : ∀ a o, H a = some o → a ∉ c → H' a = some o
  new : ∀ a, N' a → N a ∨ H a = none
  mono : ∀ a, N a → N' a
  pre : ∀ (k : Nat) a, c[k]? = some a → c'[k]? = some a
  newc : ∀ a, a ∈ c' → a ∈ c ∨ H a = none
/-- the cells and the protected addresses stand well -/
structure Wd (mg : Glob) (N : Prot) (c : List Addr) (H : Hp) (st : Sto) : Prop where
  len : c.length = st.length
  sto : ∀ (k : Nat) a xs, c[k]? = some a → st[k]? = some xs → ∃ o, H a = some o ∧ CRep mg N c H o xs
  cn : ∀ a, a ∈ c → N a
  nd : c.Nodup
  trk : ∀ a, N a → H a ≠ none
/-- the list in a cell; the dict in a cell; the instance in a cell -/
def lcG (st : Sto) (k : Nat) : Option (List D) := match st[k]? with
  | some xs => match isTag xs with
    | true => none
    | false => some xs
  | none => none
theorem lcG_of {st : Sto} {k : Nat} {xs : List D} (e : st[k]? = some xs) (nt : isTag xs = false) : lcG st k = some xs := by
  unfold lcG
  rw [e]
  dsimp only
  rw [nt]
theorem lcG_some {st : Sto} {k : Nat} {xs : List D} (e : lcG st k = some xs) : st[k]? = some xs ∧ isTag xs = false := by
  unfold lcG at e
  split at e
  · rename_i ys h
    split at e
    · cases e
    · rename_i nt
      cases e
      exact ⟨h, nt⟩
  · cases e
theorem Wd.lstC {mg : Glob} {N : Prot} {c : List Addr} {H : Hp} {st : Sto} (W : Wd mg N c H st) {k : Nat} {a : Addr} {xs : List D} (hc : c[k]? = some a) (e : lcG st k = some xs) : ∃ vs, H a = some (.lst vs) ∧ RepL mg N c H vs xs := by
  obtain ⟨h1, h2⟩ := lcG_some e
  obtain ⟨o, ha, r⟩ := W.sto k a xs hc h1
  obtain ⟨vs, rfl, r2⟩ := r.lst h2
  exact ⟨vs, ha, r2⟩
/-- the dict in a cell, to be read; to be written -/
def dcG (st : Sto) (k : Nat) : Option (List Key × List D) := match st[k]? with
  | some [.dit [_] [], .dic ks ds] => some (ks, ds)
  | some [.dit [_] [], .dic ks ds, .hid _] => some (ks, ds)
  | _ => none
def dcU (st : Sto) (k : Nat) : Option (List Key × List D) := match st[k]? with
  | some [.dit [_] [], .dic ks ds] => some (ks, ds)
  | _ => none
abbrev unC (p : List Key × List D) : List D := [tagD, .dic p.1 p.2]
theorem Wd.dcU {mg : Glob} {N : Prot} {c : List Addr} {H : Hp} {st : Sto} (W : Wd mg N c H st) {k : Nat} {a : Addr} {p : List Key × List D} (hc : c[k]? = some a) (e : dcU st k = some p) : ∃ kvs, H a = some (.dK kvs) ∧ kvs.map (·.1) = p.1 ∧ RepL mg N c H (kvs.map (·.2)) p.2 := by
  unfold LW.dcU at e
  split at e
  · rename_i h
    cases e
    obtain ⟨o, ha, r⟩ := W.sto k a _ hc h
    cases r with
    | l r => have := r.noTag; cases this
    | k r => exact ⟨_, ha, rfl, r⟩
  · cases e
theorem Wd.dcG {mg : Glob} {N : Prot} {c : List Addr} {H : Hp} {st : Sto} (W : Wd mg N c H st) {k : Nat} {a : Addr} {p : List Key × List D} (hc : c[k]? = some a) (e : dcG st k = some p) : ∃ kvs, (H a = some (.dK kvs) ∨ ∃ od, H a = some (.frz od (.dK kvs))) ∧ kvs.map (·.1) = p.1 ∧ RepL mg N c H (kvs.map (·.2)) p.2 := by
  unfold LW.dcG at e
  split at e
  · rename_i h
    cases e
    obtain ⟨o, ha, r⟩ := W.sto k a _ hc h
    cases r with
    | l r => have := r.noTag; cases this
    | k r => exact ⟨_, .inl ha, rfl, r⟩
  · rename_i h
    cases e
    obtain ⟨o, ha, r⟩ := W.sto k a _ hc h
    cases r with
    | l r => have := r.noTag; cases this
    | kz r => exact ⟨_, .inr ⟨_, ha⟩, rfl, r⟩
  · cases e
section
variable {mg : Glob} {N N' N'' : Prot} {c c' c'' : List Addr} {H H' H'' : Hp} {st st' : Sto}
theorem Ex.refl : Ex N c H N c H := ⟨fun _ _ h _ => h, fun _ h => .inl h, fun _ h => h, fun _ _ h => h, fun _ h => .inl h⟩
theorem Ex.nc (x : Ex N c H N' c' H') (W : Wd mg N c H st) {a : Addr} {o : HO} (h : H a = some o) (n : a ∉ c) : a ∉ c' := fun z => (x.newc a z).elim n fun e => by rw [h] at e; cases e
theorem Ex.trans (x : Ex N c H N' c' H') (y : Ex N' c' H' N'' c'' H'') (W : Wd mg N c H st) : Ex N c H N'' c'' H'' where
  keep := fun a o h n => y.keep a o (x.keep a o h n) (x.nc W h n)
  new := fun a z => (y.new a z).elim (x.new a) fun e => by
    cases q : H a with
    | none => exact .inr rfl
    | some o =>
      by_cases hn : a ∈ c
      · exact .inl (W.cn a hn)
      · rw [x.keep a o q hn] at e; cases e
  mono := fun a z => y.mono a (x.mono a z)
  pre := fun k a h => y.pre k a (x.pre k a h)
  newc := fun a z => (y.newc a z).elim (x.newc a) fun e => by
    cases q : H a with
    | none => exact .inr rfl
    | some o =>
      by_cases hn : a ∈ c
      · exact .inl hn
      · rw [x.keep a o q hn] at e; cases e
theorem Wd.ntup (W : Wd mg N c H st) {a : Addr} {vs : List V} (h : H a = some (.tup vs)) : a ∉ c := fun z => by
  obtain ⟨k, hk⟩ := List.getElem?_of_mem z
  have hl : k < st.length := by rw [← W.len]; exact (List.getElem?_eq_some_iff.mp hk).1
  obtain ⟨o, ho, r⟩ := W.sto k a st[k] hk (List.getElem?_eq_getElem hl)
  rw [h] at ho
  cases ho
  cases r
theorem Ex.tr (x : Ex N c H N' c' H') (W : Wd mg N c H st) : Tr N c H N' c' H' := ⟨fun a o h n => x.keep a o h fun z => n (W.cn a z), x.new, x.pre, fun a vs h => x.keep a _ h (W.ntup h)⟩
theorem Ex.free (x : Ex N c H N' c' H') (W : Wd mg N c H st) (W' : Wd mg N' c' H' st') {a : Addr} (h : H' a = none) : H a = none := by
  cases q : H a with
  | none => rfl
  | some o =>
    by_cases hn : a ∈ c
    · exact absurd h (W'.trk a (x.mono a (W.cn a hn)))
    · rw [x.keep a o q hn] at h; cases h
theorem Wd.cnone (W : Wd mg N c H st) {a : Addr} (h : H a = none) : a ∉ c := fun z => W.trk a (W.cn a z) h
/-- an object is laid: as data -/
theorem Ex.laid (W : Wd mg N c H st) {p : Addr} {o : HO} (hp : H p = none) : Ex N c H N c (upd H p o) where
  keep := fun a u h _ => by rw [upd_ne (ne_of_none h hp)]; exact h
  new := fun _ h => .inl h
  mono := fun _ h => h
  pre := fun _ _ h => h
  newc := fun _ h => .inl h
/-- an object is laid and protected -/
theorem Ex.laidN (W : Wd mg N c H st) {p : Addr} {o : HO} (hp : H p = none) : Ex N c H (fun a => N a ∨ a = p) c (upd H p o) where
  keep := fun a u h _ => by rw [upd_ne (ne_of_none h hp)]; exact h
  new := fun a h => h.elim .inl fun e => by rw [e]; exact .inr hp
  mono := fun _ h => .inl h
  pre := fun _ _ h => h
  newc := fun _ h => .inl h
theorem Wd.ex0 (W : Wd mg N c H st) (x : Ex N c H N' c H') (hk : ∀ a o, H a = some o → H' a = some o) (hn : ∀ a, N' a → H' a ≠ none) : Wd mg N' c H' st :=
  ⟨W.len, fun k a xs h1 h2 => let ⟨vs, e, r⟩ := W.sto k a xs h1 h2; ⟨vs, hk _ _ e, r.tr (x.tr W)⟩, fun a h => x.mono a (W.cn a h), W.nd, hn⟩
theorem Wd.laid (W : Wd mg N c H st) {p : Addr} {o : HO} (hp : H p = none) : Wd mg N c (upd H p o) st :=
  W.ex0 (Ex.laid W hp) (fun a u h => by rw [upd_ne (ne_of_none h hp)]; exact h) fun a h e => by
    by_cases q : a = p
    · rw [q, upd_same] at e; cases e
    · rw [upd_ne q] at e; exact W.trk a h e
theorem Wd.laidN (W : Wd mg N c H st) {p : Addr} {o : HO} (hp : H p = none) : Wd mg (fun a => N a ∨ a = p) c (upd H p o) st :=
  W.ex0 (Ex.laidN W hp) (fun a u h => by rw [upd_ne (ne_of_none h hp)]; exact h) fun a h e => by
    by_cases q : a = p
    · rw [q, upd_same] at e; cases e
    · rw [upd_ne q] at e
      exact h.elim (fun z => W.trk a z e) q
/-- fewer protected ones -/
theorem Tr.less (h : ∀ a, N' a → N a) : Tr N c H N' c H := ⟨fun _ _ e _ => e, fun a z => .inl (h a z), fun _ _ e => e, fun _ _ e => e⟩
theorem Wd.less (W : Wd mg N c H st) (h : ∀ a, N' a → N a) (hc : ∀ a, a ∈ c → N' a) : Wd mg N' c H st :=
  ⟨W.len, fun k a xs h1 h2 => let ⟨vs, e, r⟩ := W.sto k a xs h1 h2; ⟨vs, e, r.tr (Tr.less h)⟩, hc, W.nd, fun a z => W.trk a (h a z)⟩
end

/-! ### slots and environments -/
/-- a slot: unknown; data; a list, an instance that this frame alone holds and may change -/
inductive Sl where
  | un | val (d : D) | own (xs : List D) | ownI (c : Str) (ns : List Str) (vs : List D) | ownD (ks : List Key) (vs : List D) | ownT (ks : List (List Key)) (vs : List D)
  deriving Inhabited
abbrev Env := List Sl
def Sl.isOwn : Sl → Bool
  | .own _ => true
  | .ownI _ _ _ => true
  | .ownD _ _ => true
  | .ownT _ _ => true
  | _ => false
def SlR (mg : Glob) (N : Prot) (c : List Addr) (H : Hp) : Sl → Option V → Prop
  | .un, _ => True
  | .val d, o => ∃ v, o = some v ∧ Rep mg N c H v d
  | .own xs, o => ∃ a vs, o = some (.ref a) ∧ H a = some (.lst vs) ∧ RepL mg N c H vs xs
  | .ownI cn ns ds, o => ∃ a C dx fs, o = some (.ref a) ∧ mg.mg cn = some (.ref C) ∧ H a = some (.ins C dx fs) ∧ fs.map (·.1) = ns ∧ RepL mg N c H (fs.map (·.2)) ds
  | .ownD ks ds, o => ∃ a kvs, o = some (.ref a) ∧ H a = some (.dK kvs) ∧ kvs.map (·.1) = ks ∧ RepL mg N c H (kvs.map (·.2)) ds
  | .ownT ks ds, o => ∃ a kvs, o = some (.ref a) ∧ H a = some (.dT kvs) ∧ kvs.map (·.1) = ks ∧ RepL mg N c H (kvs.map (·.2)) ds
/-- the entry of a def -/
structure En where
  H0 : Hp
  N0 : Prot
  c0 : List Addr
  self : Option Addr
structure Rel (mg : Glob) (E : En) (N : Prot) (c : List Addr) (env : Env) (st : Sto) (σ : L2.St) (H : Hp) : Prop where
  len : σ.length = env.length
  sl : ∀ (i : Nat) s, env[i]? = some s → SlR mg N c H s (σ[i]?.join)
  own : ∀ (i : Nat) s a, env[i]? = some s → s.isOwn = true → σ[i]? = some (some (.ref a)) → N a ∧ a ∉ c ∧ E.H0 a = none
  inj : ∀ (i j : Nat) s s' a, env[i]? = some s → s.isOwn = true → env[j]? = some s' → s'.isOwn = true → σ[i]? = some (some (.ref a)) → σ[j]? = some (some (.ref a)) → i = j
  wd : Wd mg N c H st
  n0 : ∀ a, E.N0 a → N a
  t0 : ∀ a, E.N0 a → E.H0 a ≠ none
  base : ∀ a o, E.H0 a = some o → a ∉ c → H a = some o
  pre : ∀ (k : Nat) a, E.c0[k]? = some a → c[k]? = some a
  newc : ∀ a, a ∈ c → a ∈ E.c0 ∨ E.H0 a = none
  slf : ∀ (i : Nat) cn ns ds a, env[i]? = some (.ownI cn ns ds) → σ[i]? = some (some (.ref a)) → E.self = some a
section
variable {mg : Glob} {E : En} {N N' : Prot} {c c' : List Addr} {H H' : Hp} {st st' : Sto} {env : Env} {σ : L2.St}
theorem join_some {α : Type} {o : Option (Option α)} {v : α} (h : o.join = some v) : o = some (some v) := by
  cases o with
  | none => cases h
  | some x => cases x with
    | none => cases h
    | some y => cases h; rfl
theorem SlR.ex (x : Ex N c H N' c' H') (W : Wd mg N c H st) {s : Sl} {o : Option V} (h : SlR mg N c H s o) (hn : s.isOwn = true → ∀ a, o = some (.ref a) → a ∉ c) : SlR mg N' c' H' s o := by
  cases s with
  | un => trivial
  | val d => obtain ⟨v, e, r⟩ := h; exact ⟨v, e, r.tr (x.tr W)⟩
  | own xs => obtain ⟨a, vs, e, ha, r⟩ := h; exact ⟨a, vs, e, x.keep _ _ ha (hn rfl a e), r.tr (x.tr W)⟩
  | ownI cn ns ds => obtain ⟨a, C, dx, fs, e, hc, ha, hm, r⟩ := h; exact ⟨a, C, dx, fs, e, hc, x.keep _ _ ha (hn rfl a e), hm, r.tr (x.tr W)⟩
  | ownD ks ds => obtain ⟨a, kvs, e, ha, hm, r⟩ := h; exact ⟨a, kvs, e, x.keep _ _ ha (hn rfl a e), hm, r.tr (x.tr W)⟩
  | ownT ks ds => obtain ⟨a, kvs, e, ha, hm, r⟩ := h; exact ⟨a, kvs, e, x.keep _ _ ha (hn rfl a e), hm, r.tr (x.tr W)⟩
theorem SlR.tracked {s : Sl} {o : Option V} (h : SlR mg N c H s o) (hs : s.isOwn = true) : ∃ a u, o = some (.ref a) ∧ H a = some u := by
  cases s with
  | un => cases hs
  | val d => cases hs
  | own xs => obtain ⟨a, vs, e, ha, r⟩ := h; exact ⟨a, _, e, ha⟩
  | ownI cn ns ds => obtain ⟨a, C, dx, fs, e, hc, ha, hm, r⟩ := h; exact ⟨a, _, e, ha⟩
  | ownD ks ds => obtain ⟨a, kvs, e, ha, hm, r⟩ := h; exact ⟨a, _, e, ha⟩
  | ownT ks ds => obtain ⟨a, kvs, e, ha, hm, r⟩ := h; exact ⟨a, _, e, ha⟩
theorem Rel.ex (R : Rel mg E N c env st σ H) (x : Ex N c H N' c' H') (W' : Wd mg N' c' H' st') : Rel mg E N' c' env st' σ H' where
  len := R.len
  sl := fun i s h => (R.sl i s h).ex x R.wd fun hs a e => (R.own i s a h hs (join_some e)).2.1
  own := fun i s a h hs e => by
    obtain ⟨n, nc, z⟩ := R.own i s a h hs e
    obtain ⟨b, u, eb, hb⟩ := (R.sl i s h).tracked hs
    rw [e] at eb
    cases eb
    exact ⟨x.mono a n, x.nc R.wd hb nc, z⟩
  inj := R.inj
  wd := W'
  n0 := fun a h => x.mono a (R.n0 a h)
  t0 := R.t0
  base := fun a o h n => by
    have nc : a ∉ c := fun z => n (by
      obtain ⟨k, hk⟩ := List.getElem?_of_mem z
      exact List.mem_of_getElem? (x.pre k a hk))
    exact x.keep a o (R.base a o h nc) nc
  pre := fun k a h => x.pre k a (R.pre k a h)
  newc := fun a h => (x.newc a h).elim (R.newc a) fun e => by
    cases q : E.H0 a with
    | none => exact .inr rfl
    | some o =>
      by_cases nc : a ∈ c
      · exact absurd e (R.wd.trk a (R.wd.cn a nc))
      · rw [R.base a o q nc] at e; cases e
  slf := R.slf
end

/-! ### readings by plain functions -/
abbrev Fx (α : Type) := Env → Sto → Option (α × Sto)
abbrev SE := Fx D
/-- what is told of a value: by the state ahead and the state behind -/
abbrev Told (α : Type) := Prot → List Addr → Hp → Prot → List Addr → Hp → V → α → Prop
def tX {α : Type} (mg : Glob) (R : Told α) (f : Fx α) : TE := fun σ H Q => ∃ (E : En) (N : Prot) (c : List Addr) (env : Env) (st : Sto) (d : α) (st' : Sto), Rel mg E N c env st σ H ∧ f env st = some (d, st') ∧
  ∀ v N' c' H', Ex N c H N' c' H' → Wd mg N' c' H' st' → R N c H N' c' H' v d → Q v H'
/-- data -/
def RE (mg : Glob) : Told D := fun _ _ _ N' c' H' v d => Rep mg N' c' H' v d
/-- data, or a list of the frame's own, looked at -/
def RepT (mg : Glob) (N : Prot) (c : List Addr) (H : Hp) (v : V) (d : D) : Prop :=
  Rep mg N c H v d ∨ ∃ a vs xs, v = .ref a ∧ d = .lst xs ∧ H a = some (.lst vs) ∧ a ∉ c ∧ RepL mg N c H vs xs
def RP (mg : Glob) : Told D := fun _ _ _ N' c' H' v d => RepT mg N' c' H' v d
/-- a new list, protected -/
def RN (mg : Glob) : Told (List D) := fun _ _ H N' c' H' v xs => ∃ p vs, v = .ref p ∧ H p = none ∧ N' p ∧ p ∉ c' ∧ H' p = some (.lst vs) ∧ RepL mg N' c' H' vs xs
abbrev tE (mg : Glob) (f : SE) : TE := tX mg (RE mg) f
abbrev tP (mg : Glob) (f : SE) : TE := tX mg (RP mg) f
abbrev tL (mg : Glob) (f : Fx (List D)) : TE := tX mg (RN mg) f
/-- the list as data -/
def eL (f : Fx (List D)) : SE := fun env st => (f env st).map fun p => (.lst p.1, p.2)

section
variable {X : Cx} {e : Expr}
theorem pe_weak {t t' : TE} (h : PE X e t) (w : ∀ σ H Q, t' σ H Q → t σ H Q) : PE X e t' := ⟨fun pins s σ H Q I q => h.run pins s σ H Q I (w σ H Q q)⟩
theorem pt_weak {t t' : TT} (h : PT X e t) (w : ∀ σ H Q, t' σ H Q → t σ H Q) : PT X e t' := ⟨fun pins s σ H Q I q => h.run pins s σ H Q I (w σ H Q q)⟩
theorem pa_weak {es : List Expr} {t t' : TA} (h : PA X es t) (w : ∀ σ H Q, t' σ H Q → t σ H Q) : PA X es t' := ⟨fun pos pins s σ H Q I q => h.run pos pins s σ H Q I (w σ H Q q)⟩
theorem ps_weak {s : Stmt} {t t' : TS} (h : PS X s t) (w : ∀ D σ H, t' D σ H → t D σ H) : PS X s t' := ⟨fun pins s σ H D I q => h.run pins s σ H D I (w D σ H q)⟩
theorem pss_weak {s : List Stmt} {t t' : TS} (h : PSs X s t) (w : ∀ D σ H, t' D σ H → t D σ H) : PSs X s t' := ⟨fun pins s σ H D I q => h.run pins s σ H D I (w D σ H q)⟩
theorem pi_weak {tg it : Expr} {t t' : TI} (h : PI X tg it t) (w : ∀ σ H R, t' σ H R → t σ H R) : PI X tg it t' := ⟨fun pins s σ H R I q => h.run pins s σ H R I (w σ H R q)⟩
end
section
variable {mg : Glob} {N N' : Prot} {c c' : List Addr} {H H' : Hp} {st st' : Sto} {v : V} {d : D} {X : Cx} {e : Expr}
theorem RepT.ex (x : Ex N c H N' c' H') (W : Wd mg N c H st) (h : RepT mg N c H v d) : RepT mg N' c' H' v d := by
  rcases h with h | ⟨a, vs, xs, rfl, rfl, ha, nc, r⟩
  · exact .inl (h.tr (x.tr W))
  · exact .inr ⟨a, vs, xs, rfl, rfl, x.keep _ _ ha nc, x.nc W ha nc, r.tr (x.tr W)⟩
/-- data may be looked at -/
theorem d_peek {f : SE} (h : PE X e (tE mg f)) : PE X e (tP mg f) := pe_weak h fun σ H Q ⟨E, N, c, env, st, d, st', R, q, k⟩ => ⟨E, N, c, env, st, d, st', R, q, fun v N' c' H' x W r => k v N' c' H' x W (.inl r)⟩
/-- a new list is data: protected no more -/
theorem RN.give {xs : List D} (W : Wd mg N c H st) (x : Ex N c H N' c' H') (W' : Wd mg N' c' H' st') (h : RN mg N c H N' c' H' v xs) : ∃ N'', Ex N c H N'' c' H' ∧ Wd mg N'' c' H' st' ∧ Rep mg N'' c' H' v (.lst xs) := by
  obtain ⟨p, vs, rfl, hp, np, nc, hv, r⟩ := h
  have less : ∀ a, (N' a ∧ a ≠ p) → N' a := fun a z => z.1
  refine ⟨fun a => N' a ∧ a ≠ p, ⟨x.keep, fun a z => x.new a z.1, fun a z => ⟨x.mono a z, fun e => W.trk a z (by rw [e]; exact hp)⟩, x.pre, x.newc⟩, W'.less less fun a z => ⟨W'.cn a z, fun e => nc (e ▸ z)⟩, ?_⟩
  exact .lst hv (fun z => z.2 rfl) (r.tr (Tr.less less))
theorem d_give {f : Fx (List D)} (h : PE X e (tL mg f)) : PE X e (tE mg (eL f)) := pe_weak h fun σ H Q ⟨E, N, c, env, st, d, st', R, q, k⟩ => by
  unfold eL at q
  cases qf : f env st with
  | none => rw [qf] at q; cases q
  | some p =>
    obtain ⟨xs, s1⟩ := p
    rw [qf] at q
    cases q
    refine ⟨E, N, c, env, st, xs, _, R, qf, fun v N' c' H' x W r => ?_⟩
    obtain ⟨N'', x2, W2, r2⟩ := r.give R.wd x W
    exact k v N'' c' H' x2 W2 r2
end
end LW

/-! LwB: expressions: names, constants, operators, comparisons, tests, displays, subscripts, slices. -/
namespace LW
open PySem L2 PyProof.Rows

/-- what is told can be carried back to an earlier state -/
def Back {α : Type} (mg : Glob) (R : Told α) : Prop := ∀ {N : Prot} {c : List Addr} {H : Hp} {st : Sto} {N1 : Prot} {c1 : List Addr} {H1 : Hp} {st1 : Sto} {N' : Prot} {c' : List Addr} {H' : Hp} {v : V} {d : α},
  Wd mg N c H st → Ex N c H N1 c1 H1 → Wd mg N1 c1 H1 st1 → R N1 c1 H1 N' c' H' v d → R N c H N' c' H' v d
section
variable {mg : Glob}
theorem back_E : Back mg (RE mg) := fun _ _ _ h => h
theorem back_N : Back mg (RN mg) := fun W x W1 ⟨p, vs, e, hp, r⟩ => ⟨p, vs, e, x.free W W1 hp, r⟩
end

/-! ### names and constants -/
def eVar (i : Nat) : SE := fun env st => match env[i]? with
  | some (.val d) => some (d, st)
  | _ => none
def ePeek (i : Nat) : SE := fun env st => match env[i]? with
  | some (.own xs) => some (.lst xs, st)
  | some (.val d) => some (d, st)
  | _ => none
def eC (d : D) : SE := fun _ st => some (d, st)
section
variable {mg : Glob} {X : Cx} {x : Str} {pos : Pos} {i : Nat}
theorem r_var {σ : L2.St} {H : Hp} {Q : VK} (h : tE mg (eVar i) σ H Q) : tVar i σ H Q := by
  obtain ⟨E, N, c, env, st, d, st', R, q, k⟩ := h
  unfold eVar at q
  split at q
  · rename_i d0 he
    cases q
    obtain ⟨v, e, r⟩ := R.sl i _ he
    exact ⟨v, join_some e, k v N c H Ex.refl R.wd r⟩
  · cases q
theorem d_var (i : Nat) {x : Str} {pos : Pos} (hN : X.N[i]? = some x := by rfl) (hv : Vis X.env.scope x := by first | exact Or.inl rfl | exact Or.inr (Or.inl rfl) | exact Or.inr (Or.inr rfl)) (hd : (x == ("__debug__" : Str)) = false := by decide)
    (hcd : (x == ("__classdict__" : Str)) = false := by decide) : PE X (.Name x pos) (tE mg (eVar i)) := pe_weak (pe_var hN hv hd hcd) fun _ _ _ h => r_var h
theorem r_peek {σ : L2.St} {H : Hp} {Q : VK} (h : tP mg (ePeek i) σ H Q) : tVar i σ H Q := by
  obtain ⟨E, N, c, env, st, d, st', R, q, k⟩ := h
  unfold ePeek at q
  split at q
  · rename_i xs he
    cases q
    obtain ⟨a, vs, e, ha, r⟩ := R.sl i _ he
    obtain ⟨n1, n2, n3⟩ := R.own i _ a he rfl (join_some e)
    exact ⟨.ref a, join_some e, k _ N c H Ex.refl R.wd (.inr ⟨a, vs, xs, rfl, rfl, ha, n2, r⟩)⟩
  · rename_i d0 he
    cases q
    obtain ⟨v, e, r⟩ := R.sl i _ he
    exact ⟨v, join_some e, k v N c H Ex.refl R.wd (.inl r)⟩
  · cases q
theorem d_look (i : Nat) {x : Str} {pos : Pos} (hN : X.N[i]? = some x := by rfl) (hv : Vis X.env.scope x := by first | exact Or.inl rfl | exact Or.inr (Or.inl rfl) | exact Or.inr (Or.inr rfl)) (hd : (x == ("__debug__" : Str)) = false := by decide)
    (hcd : (x == ("__classdict__" : Str)) = false := by decide) : PE X (.Name x pos) (tP mg (ePeek i)) := pe_weak (pe_var hN hv hd hcd) fun _ _ _ h => r_peek h
theorem r_c {v : V} {d : D} (hr : ∀ N c H, Rep mg N c H v d) {σ : L2.St} {H : Hp} {Q : VK} (h : tE mg (eC d) σ H Q) : tC v σ H Q := by
  obtain ⟨E, N, c, env, st, d', st', R, q, k⟩ := h
  cases q
  exact k v N c H Ex.refl R.wd (hr N c H)
theorem d_int {i : Int} {j pos} : PE X (.Constant (.int i) j pos) (tE mg (eC (.int i))) := pe_weak pe_int fun _ _ _ h => r_c (fun _ _ _ => .int i) h
theorem d_bl {b : Bool} {j pos} : PE X (.Constant (.bool b) j pos) (tE mg (eC (.bl b))) := pe_weak pe_bl fun _ _ _ h => r_c (fun _ _ _ => .bl b) h
theorem d_non {j pos} : PE X (.Constant .none j pos) (tE mg (eC .non)) := pe_weak pe_non fun _ _ _ h => r_c (fun _ _ _ => .non) h
theorem d_str {x : Str} {j pos} : PE X (.Constant (.str x) j pos) (tE mg (eC (.str x))) := pe_weak pe_str fun _ _ _ h => r_c (fun _ _ _ => .str x) h
/-- a constant of the module, a built-in class -/
theorem d_glob {x : Str} {v : V} {d : D} {u : Value} (hg : Gl X x) (hm : X.mg x = some u) (r : RelV v u) (hr : ∀ N c H, Rep mg N c H v d) (hd : (x == ("__debug__" : Str)) = false := by decide) : PE X (.Name x pos) (tE mg (eC d)) :=
  pe_weak (pe_glob hg hm r hd) fun _ _ _ h => r_c hr h
theorem d_ty {x : Str} {n : String} (hg : Gl X x) (hm : X.mg x = none) (hv : bootBuiltins x = some (.type n)) (hn : x ≠ "__name__" := by decide) (hd : (x == ("__debug__" : Str)) = false := by decide) : PE X (.Name x pos) (tE mg (eC (.ty n))) :=
  pe_weak (pe_bltn (v := .ty n) hg hm hv rfl hn hd) fun _ _ _ h => r_c (fun _ _ _ => .ty n) h
end

/-! ### what stands behind a value -/
/-- a list that may be joined to others; a list that may be read -/
def lstM (st : Sto) : D → Option (List D)
  | .lst xs => some xs
  | .cell k => lcG st k
  | _ => none
def lstR (st : Sto) : D → Option (List D)
  | .fro xs => some xs
  | d => lstM st d
section
variable {mg : Glob} {N : Prot} {c : List Addr} {H : Hp} {st : Sto} {u : V} {x : D}
theorem RepT.non (h : RepT mg N c H u .non) : u = .non := by
  rcases h with h | ⟨_, _, _, _, e, _⟩
  · cases h; rfl
  · cases e
theorem RepT.bl {b : Bool} (h : RepT mg N c H u (.bl b)) : u = .bl b := by
  rcases h with h | ⟨_, _, _, _, e, _⟩
  · cases h; rfl
  · cases e
theorem RepT.int {i : Int} (h : RepT mg N c H u (.int i)) : u = .int i := by
  rcases h with h | ⟨_, _, _, _, e, _⟩
  · cases h; rfl
  · cases e
theorem RepT.str {z : Str} (h : RepT mg N c H u (.str z)) : u = .str z := by
  rcases h with h | ⟨_, _, _, _, e, _⟩
  · cases h; rfl
  · cases e
theorem RepT.ty {n : String} (h : RepT mg N c H u (.ty n)) : u = .ty n := by
  rcases h with h | ⟨_, _, _, _, e, _⟩
  · cases h; rfl
  · cases e
theorem RepT.tup {xs : List D} (h : RepT mg N c H u (.tup xs)) : ∃ a vs, u = .ref a ∧ H a = some (.tup vs) ∧ RepL mg N c H vs xs := by
  rcases h with h | ⟨_, _, _, _, e, _⟩
  · cases h with
    | tup h r => exact ⟨_, _, rfl, h, r⟩
  · cases e
theorem RepT.lst {xs : List D} (W : Wd mg N c H st) (h : RepT mg N c H u x) (e : lstM st x = some xs) : ∃ a vs, u = .ref a ∧ H a = some (.lst vs) ∧ RepL mg N c H vs xs := by
  rcases h with h | ⟨a, vs, ys, rfl, rfl, ha, _, r⟩
  · cases h with
    | lst h n r => cases e; exact ⟨_, _, rfl, h, r⟩
    | cell hc =>
      obtain ⟨vs, ha, r⟩ := W.lstC hc e
      exact ⟨_, _, rfl, ha, r⟩
    | _ => cases e
  · cases e
    exact ⟨a, vs, rfl, ha, r⟩
theorem RepT.read {xs : List D} (W : Wd mg N c H st) (h : RepT mg N c H u x) (e : lstR st x = some xs) : ∃ a vs, u = .ref a ∧ SqL mg.K H a vs ∧ RepL mg N c H vs xs := by
  by_cases hf : ∃ ys, x = .fro ys
  · obtain ⟨ys, rfl⟩ := hf
    cases e
    rcases h with h | ⟨_, _, _, _, e, _⟩
    · cases h with
      | fro h n r => exact ⟨_, _, rfl, .inl (.inr ⟨_, h⟩), r⟩
      | kro h => exact ⟨_, _, rfl, h H, RepL.ints _⟩
    · cases e
  · have e2 : lstM st x = some xs := by
      cases x <;> first | exact e | exact absurd ⟨_, rfl⟩ hf
    obtain ⟨a, vs, e1, ha, r⟩ := RepT.lst W h e2
    exact ⟨a, vs, e1, SqL.of ha, r⟩
theorem Rep.isNon {d : D} {v : V} (h : Rep mg N c H v d) : (v = .non) ↔ (d = .non) := by
  constructor
  · intro e; subst e; cases h; rfl
  · intro e; subst e; cases h; rfl
theorem RepT.isNon {d : D} {v : V} (h : RepT mg N c H v d) : (v = .non) ↔ (d = .non) := by
  rcases h with h | ⟨_, _, _, e1, e2, _⟩
  · exact h.isNon
  · rw [e1, e2]; exact ⟨(fun z => nomatch z), (fun z => nomatch z)⟩
end

/-! ### two operands -/
def eOp {α : Type} (op : D → D → Sto → Option α) (a b : SE) : Fx α := fun env st => match a env st with
  | none => none
  | some (x, s1) => match b env s1 with
    | none => none
    | some (y, s2) => match op x y s2 with
      | none => none
      | some d => some (d, s2)
def OpOk {α : Type} (mg : Glob) (R : Told α) (r : R2) (op : D → D → Sto → Option α) : Prop := ∀ (N : Prot) (c : List Addr) (H : Hp) (st : Sto) (u v : V) (x y : D) (d : α) (Q : VK), Wd mg N c H st → RepT mg N c H u x → RepT mg N c H v y → op x y st = some d →
  (∀ w N' c' H', Ex N c H N' c' H' → Wd mg N' c' H' st → R N c H N' c' H' w d → Q w H') → r u v H Q
def orO {α : Type} (f g : D → D → Sto → Option α) : D → D → Sto → Option α := fun x y st => match f x y st with
  | some d => some d
  | none => g x y st
def asL (f : D → D → Sto → Option (List D)) : D → D → Sto → Option D := fun x y st => match f x y st with
  | some xs => some (.lst xs)
  | none => none
section
variable {α : Type} {mg : Glob} {R : Told α} {r r' : R2} {op op' : D → D → Sto → Option α} {fa fb : SE} {X : Cx} {a b : Expr} {pos : Pos}
theorem r_op (hk : OpOk mg R r op) (hb : Back mg R) {σ : L2.St} {H : Hp} {Q : VK} (h : tX mg R (eOp op fa fb) σ H Q) : tOp r (tP mg fa) (tP mg fb) σ H Q := by
  obtain ⟨E, N, c, env, st, d, st', R0, q, k⟩ := h
  unfold eOp at q
  split at q
  · cases q
  · rename_i x s1 q1
    split at q
    · cases q
    · rename_i y s2 q2
      split at q
      · cases q
      · rename_i d0 q3
        cases q
        refine ⟨E, N, c, env, st, x, s1, R0, q1, fun v1 N1 c1 H1 x1 W1 p1 => ?_⟩
        refine ⟨E, N1, c1, env, s1, y, _, R0.ex x1 W1, q2, fun v2 N2 c2 H2 x2 W2 p2 => ?_⟩
        have x12 := x1.trans x2 R0.wd
        refine hk N2 c2 H2 _ v1 v2 x y _ Q W2 (RepT.ex x2 W1 p1) p2 q3 fun w N' c' H' x3 W3 p3 => ?_
        exact k w N' c' H' (x12.trans x3 R0.wd) W3 (hb R0.wd x12 W2 p3)
theorem OpOk.or (h : OpOk mg R r op) (h' : OpOk mg R r' op') : OpOk mg R (fun x y H Q => r x y H Q ∨ r' x y H Q) (orO op op') := by
  intro N c H st u v x y d Q W p1 p2 e k
  unfold orO at e
  split at e
  · rename_i d0 e0
    cases e
    exact .inl (h N c H st u v x y _ Q W p1 p2 e0 k)
  · exact .inr (h' N c H st u v x y d Q W p1 p2 e k)
theorem d_bin {o : Operator} (ho : OpR X (binaryOp o) r) (hk : OpOk mg R r op) (hb : Back mg R) (ha : PE X a (tP mg fa)) (hb' : PE X b (tP mg fb)) : PE X (.BinOp a o b pos) (tX mg R (eOp op fa fb)) :=
  pe_weak (pe_op ho ha hb') fun _ _ _ h => r_op hk hb h
theorem d_cmp {o : CmpOp} (ho : OpR X (compareOp o) r) (hk : OpOk mg R r op) (hb : Back mg R) (ha : PE X a (tP mg fa)) (hb' : PE X b (tP mg fb)) (hm : behindInMarks o b = false) : PE X (.Compare a [o] [b] pos) (tX mg R (eOp op fa fb)) :=
  pe_weak (pe_cmpR ho ha hb' hm) fun _ _ _ h => r_op hk hb h
end

/-! ### whole numbers -/
def iOp (C : Int → Int → Bool) (g : Int → Int → D) : D → D → Sto → Option D := fun x y _ => match x, y with
  | .int i, .int j => if C i j = true then some (g i j) else none
  | _, _ => none
theorem ok_I {mg : Glob} {C : Int → Int → Bool} {P : Int → Int → Prop} {g : Int → Int → D} {gv : Int → Int → V} (hC : ∀ i j, C i j = true → P i j) (hg : ∀ i j N c H, Rep mg N c H (gv i j) (g i j)) : OpOk mg (RE mg) (rI P gv) (iOp C g) := by
  intro N c H st u v x y d Q W p1 p2 e k
  unfold iOp at e
  split at e
  · rename_i i j
    split at e
    · rename_i hc
      cases e
      exact ⟨i, j, p1.int, p2.int, hC i j hc, k _ N c H Ex.refl W (hg i j N c H)⟩
    · cases e
  · cases e
theorem ok_I0 {mg : Glob} {g : Int → Int → D} {gv : Int → Int → V} (hg : ∀ i j N c H, Rep mg N c H (gv i j) (g i j)) : OpOk mg (RE mg) (rI0 gv) (iOp (fun _ _ => true) g) := by
  intro N c H st u v x y d Q W p1 p2 e k
  unfold iOp at e
  split at e
  · rename_i i j
    split at e
    · cases e
      exact ⟨i, j, p1.int, p2.int, k _ N c H Ex.refl W (hg i j N c H)⟩
    · cases e
  · cases e
def mulC (i j : Int) : Bool := (decide (-(2 ^ 64) < i) && decide (i < 2 ^ 64)) || (decide (-(2 ^ 64) < j) && decide (j < 2 ^ 64)) || decide ((Builtin.Int.intBits i : Int) + (Builtin.Int.intBits j : Int) ≤ 134217728)
def divC (_ j : Int) : Bool := decide (0 < j) && decide (j.natAbs.log2 < 9000)
def modC (_ j : Int) : Bool := decide (0 < j)
def powC (i j : Int) : Bool := decide (0 ≤ j) && decide ((Builtin.Int.intBits i : Int) * j ≤ 134217728)
section
variable {X : Cx} {mg : Glob}
theorem op_powA : OpR X (binaryOp .Pow) (rI (fun i j => powC i j = true) fun i j => .int (i ^ j.toNat)) := opI fun i j _ _ _ _ _ hc q => by
  have hc : powC i j = true := hc
  unfold powC at hc
  rw [Bool.and_eq_true] at hc
  exact pow_int (of_decide_eq_true hc.1) (of_decide_eq_true hc.2) q
end
abbrev oSub := iOp (fun _ _ => true) fun i j => .int (i - j)
abbrev oMul := iOp mulC fun i j => .int (i * j)
abbrev oDiv := iOp divC fun i j => .int (i / j)
abbrev oMod := iOp modC fun i j => .int (i % j)
abbrev oPow := iOp powC fun i j => .int (i ^ j.toNat)
abbrev oLt := iOp (fun _ _ => true) fun i j => .bl (decide (i < j))
abbrev oLe := iOp (fun _ _ => true) fun i j => .bl (decide (i ≤ j))
abbrev oGt := iOp (fun _ _ => true) fun i j => .bl (decide (j < i))
abbrev oGe := iOp (fun _ _ => true) fun i j => .bl (decide (j ≤ i))
section
variable {X : Cx} {mg : Glob} {a b : Expr} {pos : Pos} {fa fb : SE}
theorem d_sub (ha : PE X a (tP mg fa)) (hb : PE X b (tP mg fb)) : PE X (.BinOp a .Sub b pos) (tE mg (eOp oSub fa fb)) := d_bin op_sub (ok_I0 fun i j _ _ _ => .int (i - j)) back_E ha hb
theorem d_mod (ha : PE X a (tP mg fa)) (hb : PE X b (tP mg fb)) : PE X (.BinOp a .Mod b pos) (tE mg (eOp oMod fa fb)) := d_bin op_mod (ok_I (fun _ _ h => of_decide_eq_true h) fun i j _ _ _ => .int (i % j)) back_E ha hb
theorem d_pow (ha : PE X a (tP mg fa)) (hb : PE X b (tP mg fb)) : PE X (.BinOp a .Pow b pos) (tE mg (eOp oPow fa fb)) := d_bin op_powA (ok_I (fun _ _ h => h) fun i j _ _ _ => .int _) back_E ha hb
theorem d_lt (ha : PE X a (tP mg fa)) (hb : PE X b (tP mg fb)) : PE X (.Compare a [.Lt] [b] pos) (tE mg (eOp oLt fa fb)) := d_cmp op_lt (ok_I0 fun i j _ _ _ => .bl _) back_E ha hb (nomark _)
theorem d_le (ha : PE X a (tP mg fa)) (hb : PE X b (tP mg fb)) : PE X (.Compare a [.LtE] [b] pos) (tE mg (eOp oLe fa fb)) := d_cmp op_le (ok_I0 fun i j _ _ _ => .bl _) back_E ha hb (nomark _)
theorem d_gt (ha : PE X a (tP mg fa)) (hb : PE X b (tP mg fb)) : PE X (.Compare a [.Gt] [b] pos) (tE mg (eOp oGt fa fb)) := d_cmp op_gt (ok_I0 fun i j _ _ _ => .bl _) back_E ha hb (nomark _)
theorem d_ge (ha : PE X a (tP mg fa)) (hb : PE X b (tP mg fb)) : PE X (.Compare a [.GtE] [b] pos) (tE mg (eOp oGe fa fb)) := d_cmp op_ge (ok_I0 fun i j _ _ _ => .bl _) back_E ha hb (nomark _)
end

/-! ### adding -/
def oCat : D → D → Sto → Option (List D) := fun x y st => match lstM st x, lstM st y with
  | some xs, some ys => if xs.length + ys.length ≤ 1000000 then some (xs ++ ys) else none
  | _, _ => none
def oCatS : D → D → Sto → Option D := fun x y _ => match x, y with
  | .str s, .str t => if s.length + t.length ≤ 1000000 then some (.str (s ++ t)) else none
  | _, _ => none
def oCatT : D → D → Sto → Option D := fun x y _ => match x, y with
  | .tup xs, .tup ys => if xs.length + ys.length ≤ 1000000 then some (.tup (xs ++ ys)) else none
  | _, _ => none
theorem sz6 {n : Nat} (h : n ≤ 1000000) : n ≤ sizeLine := Nat.le_trans h (by decide)
section
variable {mg : Glob}
theorem RN.laid {N : Prot} {c : List Addr} {H : Hp} {st : Sto} {vs : List V} {xs : List D} {p : Addr} (W : Wd mg N c H st) (hp : H p = none) (r : RepL mg N c H vs xs) : RN mg N c H (fun a => N a ∨ a = p) c (upd H p (.lst vs)) (.ref p) xs :=
  ⟨p, vs, rfl, hp, .inr rfl, W.cnone hp, upd_same, r.tr ((Ex.laidN W hp).tr W)⟩
theorem Rep.laidT {N : Prot} {c : List Addr} {H : Hp} {st : Sto} {vs : List V} {xs : List D} {p : Addr} (W : Wd mg N c H st) (hp : H p = none) (r : RepL mg N c H vs xs) : Rep mg N c (upd H p (.tup vs)) (.ref p) (.tup xs) :=
  .tup upd_same (r.tr ((Ex.laid W hp).tr W))
theorem ok_cat : OpOk mg (RN mg) rCat oCat := by
  intro N c H st u v x y d Q W p1 p2 e k
  unfold oCat at e
  split at e
  · rename_i xs ys e1 e2
    split at e
    · rename_i hl
      cases e
      obtain ⟨a, vs, rfl, ha, r1⟩ := RepT.lst W p1 e1
      obtain ⟨b, us, rfl, hb, r2⟩ := RepT.lst W p2 e2
      refine ⟨a, b, vs, us, rfl, rfl, ha, hb, sz6 (by rw [r1.length, r2.length]; exact hl), fun p hp => ?_⟩
      exact k _ _ _ _ (Ex.laidN W hp) (W.laidN hp) (RN.laid W hp (r1.append r2))
    · cases e
  · cases e
theorem OpOk.give {r : R2} {op : D → D → Sto → Option (List D)} (h : OpOk mg (RN mg) r op) : OpOk mg (RE mg) r (asL op) := by
  intro N c H st u v x y d Q W p1 p2 e k
  unfold asL at e
  split at e
  · rename_i xs e0
    cases e
    refine h N c H st u v x y xs Q W p1 p2 e0 fun w N' c' H' x W' r => ?_
    obtain ⟨N'', x2, W2, r2⟩ := r.give W x W'
    exact k w N'' c' H' x2 W2 r2
  · cases e
theorem ok_catS : OpOk mg (RE mg) (fun x y H Q => ∃ i j, x = .str i ∧ y = .str j ∧ i.length + j.length ≤ sizeLine ∧ Q (.str (i ++ j)) H) oCatS := by
  intro N c H st u v x y d Q W p1 p2 e k
  unfold oCatS at e
  split at e
  · rename_i i j
    split at e
    · rename_i hl
      cases e
      exact ⟨i, j, p1.str, p2.str, sz6 hl, k _ N c H Ex.refl W (.str _)⟩
    · cases e
  · cases e
theorem ok_catT {K : PySem.W.Frag} : OpOk mg (RP mg) (rCatA K) oCatT := by
  intro N c H st u v x y d Q W p1 p2 e k
  unfold oCatT at e
  split at e
  · rename_i xs ys
    split at e
    · rename_i hl
      cases e
      obtain ⟨a, vs, rfl, ha, r1⟩ := p1.tup
      obtain ⟨b, us, rfl, hb, r2⟩ := p2.tup
      have l1 := r1.length
      have l2 := r2.length
      refine ⟨a, b, vs, us, rfl, rfl, SqT.of ha, SqT.of hb, sz6 (by omega), fun e0 => ?_, fun n1 e0 => ?_, fun n1 n2 p hp => ?_⟩
      · subst e0
        cases r1
        exact k _ N c H Ex.refl W p2
      · subst e0
        cases r2
        rw [List.append_nil] at k
        exact k _ N c H Ex.refl W p1
      · exact k _ _ _ _ (Ex.laid W hp) (W.laid hp) (.inl (Rep.laidT W hp (r1.append r2)))
    · cases e
  · cases e
theorem ok_catT' {K : PySem.W.Frag} : OpOk mg (RE mg) (rCatA K) oCatT := by
  intro N c H st u v x y d Q W p1 p2 e k
  refine ok_catT N c H st u v x y d Q W p1 p2 e fun w N' c' H' x W' r => k w N' c' H' x W' ?_
  have : ∃ zs, d = .tup zs := by
    unfold oCatT at e
    split at e
    · split at e
      · cases e; exact ⟨_, rfl⟩
      · cases e
    · cases e
  obtain ⟨zs, rfl⟩ := this
  rcases r with r | ⟨_, _, _, _, e, _⟩
  · exact r
  · cases e
end
/-- x + y as data: ints, texts, lists, tuples -/
abbrev oAdd : D → D → Sto → Option D := orO (iOp (fun _ _ => true) fun i j => .int (i + j)) (orO oCatS (orO (asL oCat) oCatT))
section
variable {X : Cx} {mg : Glob} {a b : Expr} {pos : Pos} {fa fb : SE}
theorem d_add (ha : PE X a (tP mg fa)) (hb : PE X b (tP mg fb)) : PE X (.BinOp a .Add b pos) (tE mg (eOp oAdd fa fb)) :=
  d_bin (OpR.or op_add (OpR.or op_add_str (OpR.or op_cat op_catA))) (OpOk.or (ok_I0 fun i j _ _ _ => .int (i + j)) (OpOk.or ok_catS (OpOk.or ok_cat.give ok_catT'))) back_E ha hb
theorem d_addL (ha : PE X a (tP mg fa)) (hb : PE X b (tP mg fb)) : PE X (.BinOp a .Add b pos) (tL mg (eOp oCat fa fb)) := d_bin op_cat ok_cat back_N ha hb
end
end LW

/-! LwC: equality, is None, in; tests, and, or, not, if; argument lists, displays; subscripts, slices. -/
namespace LW
open PySem L2 PyProof.Rows

/-! ### equality of data -/
def mapO {α β : Type} (f : α → Option β) : List α → Option (List β)
  | [] => some []
  | x :: r => match f x with
    | none => none
    | some y => match mapO f r with
      | none => none
      | some ys => some (y :: ys)
/-- data as the library's data: no instances, no dicts; n: how deep -/
def toPy : Nat → Sto → D → Option PyData
  | 0, _, _ => none
  | n + 1, st, d => match d with
    | .non => some .none
    | .bl b => some (.bool b)
    | .int i => some (.int i)
    | .str x => if PyData.strOk x = true then some (.str x) else none
    | .tup xs => match mapO (toPy n st) xs with
      | some ps => some (.tuple ps)
      | none => none
    | .lst xs => match mapO (toPy n st) xs with
      | some ps => some (.list ps)
      | none => none
    | .fro xs => match mapO (toPy n st) xs with
      | some ps => some (.list ps)
      | none => none
    | .cell k => match lcG st k with
      | none => none
      | some xs => match mapO (toPy n st) xs with
        | some ps => some (.list ps)
        | none => none
    | _ => none
theorem depthAll_le {n : Nat} {f : D → Option PyData} (h : ∀ x p, f x = some p → p.depth ≤ n ∧ p.canLay0 = true) : ∀ (xs : List D) (ps : List PyData), mapO f xs = some ps → PyData.depthAll ps ≤ n ∧ PyData.canLayAll0 ps = true
  | [], ps, e => by
    cases e
    exact ⟨Nat.zero_le _, rfl⟩
  | x :: r, ps, e => by
    unfold mapO at e
    split at e
    · cases e
    · rename_i y hy
      split at e
      · cases e
      · rename_i ys hys
        cases e
        obtain ⟨h1, h2⟩ := h x y hy
        obtain ⟨h3, h4⟩ := depthAll_le h r ys hys
        refine ⟨?_, ?_⟩
        · show max y.depth (PyData.depthAll ys) ≤ n
          omega
        · show (y.canLay0 && PyData.canLayAll0 ys) = true
          rw [h2, h4]; rfl
theorem toPy_ok : ∀ (n : Nat) (st : Sto) (d : D) (p : PyData), toPy n st d = some p → p.depth ≤ n ∧ p.canLay0 = true := by
  intro n
  induction n with
  | zero => intro st d p e; cases e
  | succ n ih =>
    intro st d p e
    have hL := @depthAll_le n (toPy n st) (fun x p h => ih st x p h)
    unfold toPy at e
    split at e
    · cases e; exact ⟨Nat.zero_le _, rfl⟩
    · cases e; exact ⟨Nat.zero_le _, rfl⟩
    · cases e; exact ⟨Nat.zero_le _, rfl⟩
    · split at e
      · rename_i hs
        cases e; exact ⟨Nat.zero_le _, hs⟩
      · cases e
    · split at e
      · rename_i xs ps hp
        cases e
        obtain ⟨h1, h2⟩ := hL _ ps hp
        exact ⟨Nat.succ_le_succ h1, h2⟩
      · cases e
    · split at e
      · rename_i xs ps hp
        cases e
        obtain ⟨h1, h2⟩ := hL _ ps hp
        exact ⟨Nat.succ_le_succ h1, h2⟩
      · cases e
    · split at e
      · rename_i xs ps hp
        cases e
        obtain ⟨h1, h2⟩ := hL _ ps hp
        exact ⟨Nat.succ_le_succ h1, h2⟩
      · cases e
    · split at e
      · cases e
      · split at e
        · rename_i xs hx ps hp
          cases e
          obtain ⟨h1, h2⟩ := hL _ ps hp
          exact ⟨Nat.succ_le_succ h1, h2⟩
        · cases e
    · cases e
theorem toPy_shaped {st : Sto} {d : D} {p : PyData} (h : toPy 60 st d = some p) : SeqAt.shaped p = true := by
  obtain ⟨h1, h2⟩ := toPy_ok 60 st d p h
  unfold SeqAt.shaped
  rw [h2, decide_eq_true (show p.depth ≤ 64 by omega)]
  rfl
section
variable {mg : Glob} {N : Prot} {c : List Addr} {H : Hp} {st : Sto}
theorem dp_all {n : Nat} (h : ∀ (d : D) (v : V) (p : PyData), Rep mg N c H v d → toPy n st d = some p → Dp mg.K H v p) : ∀ (xs : List D) (vs : List V) (ps : List PyData), RepL mg N c H vs xs → mapO (toPy n st) xs = some ps → DpAll mg.K H vs ps
  | [], _, ps, .nil, e => by cases e; exact .nil
  | x :: r, _, ps, .cons hv t, e => by
    unfold mapO at e
    split at e
    · cases e
    · rename_i y hy
      split at e
      · cases e
      · rename_i ys hys
        cases e
        exact .cons (h _ _ _ hv hy) (dp_all h r _ ys t hys)
theorem dp_of (W : Wd mg N c H st) : ∀ (n : Nat) (d : D) (v : V) (p : PyData), Rep mg N c H v d → toPy n st d = some p → Dp mg.K H v p := by
  intro n
  induction n with
  | zero => intro d v p _ e; cases e
  | succ n ih =>
    intro d v p h e
    unfold toPy at e
    split at e
    · cases e; cases h; exact .non
    · cases e; cases h; exact .bl _
    · cases e; cases h; exact .int _
    · split at e
      · cases e; cases h; exact .str _
      · cases e
    · split at e
      · rename_i ps hp
        cases e
        cases h with
        | tup ha r => exact .tup (SqT.of ha) (dp_all ih _ _ _ r hp)
      · cases e
    · split at e
      · rename_i ps hp
        cases e
        cases h with
        | lst ha _ r => exact .lst (SqL.of ha) (dp_all ih _ _ _ r hp)
      · cases e
    · split at e
      · rename_i ps hp
        cases e
        cases h with
        | fro ha _ r => exact .lst (.inl (.inr ⟨_, ha⟩)) (dp_all ih _ _ _ r hp)
        | kro hq => exact .lst (hq H) (dp_all ih _ _ _ (RepL.ints _) hp)
      · cases e
    · split at e
      · cases e
      · rename_i xs hx
        split at e
        · rename_i ps hp
          cases e
          cases h with
          | cell hc =>
            obtain ⟨vs, ha, r⟩ := W.lstC hc hx
            exact .lst (SqL.of ha) (dp_all ih _ _ _ r hp)
        · cases e
    · cases e
theorem dp_T (W : Wd mg N c H st) {d : D} {v : V} {p : PyData} (h : RepT mg N c H v d) (e : toPy 60 st d = some p) : Dp mg.K H v p := by
  rcases h with h | ⟨a, vs, xs, rfl, rfl, ha, _, r⟩
  · exact dp_of W 60 d v p h e
  · unfold toPy at e
    dsimp only at e
    split at e
    · rename_i ps hp
      cases e
      exact .lst (SqL.of ha) (dp_all (dp_of W 59) _ _ _ r hp)
    · cases e
end
def oEq : D → D → Sto → Option D := fun x y st => match toPy 60 st x, toPy 60 st y with
  | some p, some q => some (.bl (PyData.eqv p q))
  | _, _ => none
def oNe : D → D → Sto → Option D := fun x y st => match toPy 60 st x, toPy 60 st y with
  | some p, some q => some (.bl (!PyData.eqv p q))
  | _, _ => none
theorem ok_eq {mg : Glob} : OpOk mg (RE mg) (rEqD mg.K) oEq := by
  intro N c H st u v x y d Q W p1 p2 e k
  unfold oEq at e
  split at e
  · rename_i p q e1 e2
    cases e
    exact ⟨p, q, dp_T W p1 e1, dp_T W p2 e2, toPy_shaped e1, toPy_shaped e2, k _ N c H Ex.refl W (.bl _)⟩
  · cases e
theorem ok_ne {mg : Glob} : OpOk mg (RE mg) (rNeD mg.K) oNe := by
  intro N c H st u v x y d Q W p1 p2 e k
  unfold oNe at e
  split at e
  · rename_i p q e1 e2
    cases e
    exact ⟨p, q, dp_T W p1 e1, dp_T W p2 e2, toPy_shaped e1, toPy_shaped e2, k _ N c H Ex.refl W (.bl _)⟩
  · cases e
/-- is None, is not None -/
def isNonD : D → Bool
  | .non => true
  | _ => false
theorem isNonD_iff {d : D} : isNonD d = true ↔ d = .non := by
  cases d <;> simp [isNonD]
def oIsN : D → D → Sto → Option D := fun x y _ => match y with
  | .non => some (.bl (isNonD x))
  | _ => none
def oNotN : D → D → Sto → Option D := fun x y _ => match y with
  | .non => some (.bl (!isNonD x))
  | _ => none
theorem isN_eq {mg : Glob} {N : Prot} {c : List Addr} {H : Hp} {u : V} {x : D} (h : RepT mg N c H u x) : decide (u = .non) = isNonD x := by
  cases e : isNonD x with
  | true => exact decide_eq_true (h.isNon.mpr (isNonD_iff.mp e))
  | false =>
    refine decide_eq_false fun z => ?_
    have q := isNonD_iff.mpr (h.isNon.mp z)
    rw [e] at q; cases q
theorem ok_isN {mg : Glob} : OpOk mg (RE mg) (fun x y H Q => y = .non ∧ Q (.bl (decide (x = .non))) H) oIsN := by
  intro N c H st u v x y d Q W p1 p2 e k
  unfold oIsN at e
  split at e
  · cases e
    refine ⟨p2.non, ?_⟩
    rw [isN_eq p1]
    exact k _ N c H Ex.refl W (.bl _)
  · cases e
theorem ok_notN {mg : Glob} : OpOk mg (RE mg) (fun x y H Q => y = .non ∧ Q (.bl (!decide (x = .non))) H) oNotN := by
  intro N c H st u v x y d Q W p1 p2 e k
  unfold oNotN at e
  split at e
  · cases e
    refine ⟨p2.non, ?_⟩
    rw [isN_eq p1]
    exact k _ N c H Ex.refl W (.bl _)
  · cases e
section
variable {X : Cx} {mg : Glob} {a b : Expr} {pos : Pos} {fa fb : SE}
theorem d_eq (hu : X.A.units + 64 < cLine) (ha : PE X a (tP mg fa)) (hb : PE X b (tP mg fb)) (hK : X.K = mg.K := by rfl) : PE X (.Compare a [.Eq] [b] pos) (tE mg (eOp oEq fa fb)) := d_cmp (hK ▸ op_eqD hu) ok_eq back_E ha hb (nomark _)
theorem d_ne (hu : X.A.units + 64 < cLine) (ha : PE X a (tP mg fa)) (hb : PE X b (tP mg fb)) (hK : X.K = mg.K := by rfl) : PE X (.Compare a [.NotEq] [b] pos) (tE mg (eOp oNe fa fb)) := d_cmp (hK ▸ op_neD hu) ok_ne back_E ha hb (nomark _)
theorem d_isN (ha : PE X a (tP mg fa)) (hb : PE X b (tP mg fb)) : PE X (.Compare a [.Is] [b] pos) (tE mg (eOp oIsN fa fb)) := d_cmp op_isN ok_isN back_E ha hb (nomark _)
theorem d_notN (ha : PE X a (tP mg fa)) (hb : PE X b (tP mg fb)) : PE X (.Compare a [.IsNot] [b] pos) (tE mg (eOp oNotN fa fb)) := d_cmp op_notN ok_notN back_E ha hb (nomark _)
end

/-! ### tests -/
abbrev SB := Fx Bool
def tT (mg : Glob) (f : SB) : TT := fun σ H Q => ∃ (E : En) (N : Prot) (c : List Addr) (env : Env) (st : Sto) (b : Bool) (st' : Sto), Rel mg E N c env st σ H ∧ f env st = some (b, st') ∧
  ∀ N' c' H', Ex N c H N' c' H' → Wd mg N' c' H' st' → Q b H'
def bOf (f : SE) : SB := fun env st => match f env st with
  | some (.bl b, s1) => some (b, s1)
  | _ => none
def bAnd (f g : SB) : SB := fun env st => match f env st with
  | none => none
  | some (true, s1) => g env s1
  | some (false, s1) => some (false, s1)
def bOr (f g : SB) : SB := fun env st => match f env st with
  | none => none
  | some (true, s1) => some (true, s1)
  | some (false, s1) => g env s1
def bNot (f : SB) : SB := fun env st => match f env st with
  | none => none
  | some (b, s1) => some (!b, s1)
section
variable {X : Cx} {mg : Glob} {e a b : Expr} {rest : List Expr} {pos : Pos} {fe fa fb : SE} {ta tb tc : SB}
theorem r_bOf {σ : L2.St} {H : Hp} {Q : Bool → Hp → Prop} (h : tT mg (bOf fe) σ H Q) : tB (tP mg fe) σ H Q := by
  obtain ⟨E, N, c, env, st, d, st', R, q, k⟩ := h
  unfold bOf at q
  split at q
  · rename_i b s1 q1
    cases q
    exact ⟨E, N, c, env, st, _, _, R, q1, fun v N' c' H' x W r => ⟨_, r.bl, k N' c' H' x W⟩⟩
  · cases q
theorem d_test (h : PE X e (tP mg fe)) (he : ∀ whole, isTrue e X.env whole = (do let v ← whole; standAt e.pos; holding [v] (truthy v)) := by intro _; rfl) : PT X e (tT mg (bOf fe)) := pt_weak (pt_val h he) fun _ _ _ q => r_bOf q
theorem pw_weak {t t' : TT} (h : PW X e t) (w : ∀ σ H Q, t' σ H Q → t σ H Q) : PW X e t' := ⟨fun wh pins s σ H Q I q => h.run wh pins s σ H Q I (w σ H Q q)⟩
theorem r_and {σ : L2.St} {H : Hp} {Q : Bool → Hp → Prop} (h : tT mg (bAnd ta tb) σ H Q) : tAnd (tT mg ta) (tT mg tb) σ H Q := by
  obtain ⟨E, N, c, env, st, d, st', R, q, k⟩ := h
  unfold bAnd at q
  split at q
  · cases q
  · rename_i s1 q1
    refine ⟨E, N, c, env, st, true, s1, R, q1, fun N1 c1 H1 x1 W1 => iteT ?_⟩
    exact ⟨E, N1, c1, env, s1, d, st', R.ex x1 W1, q, fun N2 c2 H2 x2 W2 => k N2 c2 H2 (x1.trans x2 R.wd) W2⟩
  · rename_i s1 q1
    cases q
    exact ⟨E, N, c, env, st, false, _, R, q1, fun N1 c1 H1 x1 W1 => iteF (k N1 c1 H1 x1 W1)⟩
theorem r_or {σ : L2.St} {H : Hp} {Q : Bool → Hp → Prop} (h : tT mg (bOr ta tb) σ H Q) : tOr (tT mg ta) (tT mg tb) σ H Q := by
  obtain ⟨E, N, c, env, st, d, st', R, q, k⟩ := h
  unfold bOr at q
  split at q
  · cases q
  · rename_i s1 q1
    cases q
    exact ⟨E, N, c, env, st, true, _, R, q1, fun N1 c1 H1 x1 W1 => iteT (k N1 c1 H1 x1 W1)⟩
  · rename_i s1 q1
    refine ⟨E, N, c, env, st, false, s1, R, q1, fun N1 c1 H1 x1 W1 => iteF ?_⟩
    exact ⟨E, N1, c1, env, s1, d, st', R.ex x1 W1, q, fun N2 c2 H2 x2 W2 => k N2 c2 H2 (x1.trans x2 R.wd) W2⟩
theorem r_not {σ : L2.St} {H : Hp} {Q : Bool → Hp → Prop} (h : tT mg (bNot ta) σ H Q) : tNot (tT mg ta) σ H Q := by
  obtain ⟨E, N, c, env, st, d, st', R, q, k⟩ := h
  unfold bNot at q
  split at q
  · cases q
  · rename_i b s1 q1
    cases q
    exact ⟨E, N, c, env, st, b, _, R, q1, k⟩
theorem w_and1 (ha : PT X a (tT mg ta)) : PW X (.BoolOp .And [a] pos) (tT mg ta) := pw_and1 ha
theorem w_or1 (ha : PT X a (tT mg ta)) : PW X (.BoolOp .Or [a] pos) (tT mg ta) := pw_or1 ha
theorem w_and (ha : PT X a (tT mg ta)) (hb : PW X (.BoolOp .And (b :: rest) pos) (tT mg tb)) : PW X (.BoolOp .And (a :: b :: rest) pos) (tT mg (bAnd ta tb)) := pw_weak (pw_and ha hb) fun _ _ _ q => r_and q
theorem w_or (ha : PT X a (tT mg ta)) (hb : PW X (.BoolOp .Or (b :: rest) pos) (tT mg tb)) : PW X (.BoolOp .Or (a :: b :: rest) pos) (tT mg (bOr ta tb)) := pw_weak (pw_or ha hb) fun _ _ _ q => r_or q
theorem w_pt (h : PW X e (tT mg ta)) : PT X e (tT mg ta) := h.pt
theorem d_not (ha : PT X a (tT mg ta)) : PT X (.UnaryOp .Not a pos) (tT mg (bNot ta)) := pt_weak (pt_not ha) fun _ _ _ q => r_not q
/-- a comparison as a test -/
theorem test_cmp {M : Model} {A : Around} {l r : Expr} {op : CmpOp} {pos : Pos} {env : PySem.Env} {whole : Sem Value} {Q : Bool → Shared → Prop} {E : Value → Shared → Prop} {s : Shared}
    (h : wpAny M A (eval (.Compare l [op] [r] pos) env) (fun c s₃ => wpAny M A (truthy c) Q E s₃) E s) : wpAny M A (isTrue (.Compare l [op] [r] pos) env whole) Q E s := fun Γ p hΓ => by
  have h := h Γ p hΓ
  simp only [eval_Compare1, isTrue_Compare1, Sem.wp_bind', Sem.wp_holding, Sem.wp_cmd_standAt, Sem.wp_operate] at h ⊢
  exact Sem.wp_mono M Γ _ (fun a p₁ s₁ h₁ => Sem.wp_mono M Γ _ (fun b _ s₂ h₂ => Sem.wp_mono M Γ _ (fun c p₃ s₃ h₃ => h₃ Γ p₃ hΓ)
    (fun _ _ _ h' => h') _ _ h₂) (fun _ _ _ h' => h') _ _ h₁) (fun _ _ _ h' => h') _ _ h
theorem d_testC {o : CmpOp} (h : PE X (.Compare a [o] [b] pos) (tP mg fe)) : PT X (.Compare a [o] [b] pos) (tT mg (bOf fe)) := by
  refine ⟨fun pins s σ H Q I q => ?_⟩
  refine test_cmp (thn (h.run pins s σ H _ I (r_bOf q)) fun c s3 ⟨z, H3, I3, r3, e3⟩ => ?_)
  obtain ⟨k, e, q3⟩ := e3
  subst e
  cases r3
  exact wpAny_truthy_bool ⟨H3, I3, q3⟩
end

/-! ### and, or, not as values of truth values; if; minus -/
def eAnd (f g : SE) : SE := fun env st => match f env st with
  | some (.bl true, s1) => g env s1
  | some (.bl false, s1) => some (.bl false, s1)
  | _ => none
def eOr (f g : SE) : SE := fun env st => match f env st with
  | some (.bl true, s1) => some (.bl true, s1)
  | some (.bl false, s1) => g env s1
  | _ => none
def eNot (f : SE) : SE := fun env st => match f env st with
  | some (.bl b, s1) => some (.bl (!b), s1)
  | _ => none
def eIf {α : Type} (t : SB) (f g : Fx α) : Fx α := fun env st => match t env st with
  | some (true, s1) => f env s1
  | some (false, s1) => g env s1
  | none => none
def eNeg (f : SE) : SE := fun env st => match f env st with
  | some (.int i, s1) => some (.int (-i), s1)
  | _ => none
section
variable {X : Cx} {mg : Glob} {e a b : Expr} {rest : List Expr} {pos : Pos} {fe fa fb : SE} {ta tb tc : SB}
theorem r_andV {σ : L2.St} {H : Hp} {Q : VK} (h : tE mg (eAnd fa fb) σ H Q) : tAndV (tP mg fa) (tE mg fb) σ H Q := by
  obtain ⟨E, N, c, env, st, d, st', R, q, k⟩ := h
  unfold eAnd at q
  split at q
  · rename_i s1 q1
    refine ⟨E, N, c, env, st, _, s1, R, q1, fun v N1 c1 H1 x1 W1 r1 => ⟨true, r1.bl, iteT ?_⟩⟩
    exact ⟨E, N1, c1, env, s1, d, st', R.ex x1 W1, q, fun v N2 c2 H2 x2 W2 r2 => k v N2 c2 H2 (x1.trans x2 R.wd) W2 r2⟩
  · rename_i s1 q1
    cases q
    exact ⟨E, N, c, env, st, _, _, R, q1, fun v N1 c1 H1 x1 W1 r1 => ⟨false, r1.bl, iteF (k _ N1 c1 H1 x1 W1 (.bl false))⟩⟩
  · cases q
theorem r_notV {σ : L2.St} {H : Hp} {Q : VK} (h : tE mg (eNot fa) σ H Q) : tNotV (tP mg fa) σ H Q := by
  obtain ⟨E, N, c, env, st, d, st', R, q, k⟩ := h
  unfold eNot at q
  split at q
  · rename_i b s1 q1
    cases q
    exact ⟨E, N, c, env, st, _, _, R, q1, fun v N1 c1 H1 x1 W1 r1 => ⟨b, r1.bl, k _ N1 c1 H1 x1 W1 (.bl _)⟩⟩
  · cases q
theorem r_if {α : Type} {Rt : Told α} (hb : Back mg Rt) {f g : Fx α} {σ : L2.St} {H : Hp} {Q : VK} (h : tX mg Rt (eIf ta f g) σ H Q) : tIf (tT mg ta) (tX mg Rt f) (tX mg Rt g) σ H Q := by
  obtain ⟨E, N, c, env, st, d, st', R, q, k⟩ := h
  unfold eIf at q
  split at q
  · rename_i s1 q1
    refine ⟨E, N, c, env, st, _, s1, R, q1, fun N1 c1 H1 x1 W1 => iteT ?_⟩
    exact ⟨E, N1, c1, env, s1, d, st', R.ex x1 W1, q, fun v N2 c2 H2 x2 W2 r2 => k v N2 c2 H2 (x1.trans x2 R.wd) W2 (hb R.wd x1 W1 r2)⟩
  · rename_i s1 q1
    refine ⟨E, N, c, env, st, _, s1, R, q1, fun N1 c1 H1 x1 W1 => iteF ?_⟩
    exact ⟨E, N1, c1, env, s1, d, st', R.ex x1 W1, q, fun v N2 c2 H2 x2 W2 r2 => k v N2 c2 H2 (x1.trans x2 R.wd) W2 (hb R.wd x1 W1 r2)⟩
  · cases q
theorem r_neg {σ : L2.St} {H : Hp} {Q : VK} (h : tE mg (eNeg fa) σ H Q) : tUn (rU fun i => .int (-i)) (tP mg fa) σ H Q := by
  obtain ⟨E, N, c, env, st, d, st', R, q, k⟩ := h
  unfold eNeg at q
  split at q
  · rename_i i s1 q1
    cases q
    exact ⟨E, N, c, env, st, _, _, R, q1, fun v N1 c1 H1 x1 W1 r1 => ⟨i, r1.int, k _ N1 c1 H1 x1 W1 (.int _)⟩⟩
  · cases q
theorem v_one {op : BoolOp} (ha : PE X a (tE mg fa)) : PE X (.BoolOp op [a] pos) (tE mg fa) := pe_one ha
theorem v_and (ha : PE X a (tP mg fa)) (hb : PE X (.BoolOp .And (b :: rest) pos) (tE mg fb)) : PE X (.BoolOp .And (a :: b :: rest) pos) (tE mg (eAnd fa fb)) := pe_weak (pe_and ha hb) fun _ _ _ q => r_andV q
theorem v_not (ha : PE X a (tP mg fa)) : PE X (.UnaryOp .Not a pos) (tE mg (eNot fa)) := pe_weak (pe_not ha) fun _ _ _ q => r_notV q
theorem d_if {c : Expr} (hc : PT X c (tT mg tc)) (ha : PE X a (tE mg fa)) (hb : PE X b (tE mg fb)) : PE X (.IfExp c a b pos) (tE mg (eIf tc fa fb)) := pe_weak (pe_ifExp hc ha hb) fun _ _ _ q => r_if (Rt := RE mg) back_E q
theorem d_neg (ha : PE X a (tP mg fa)) : PE X (.UnaryOp .USub a pos) (tE mg (eNeg fa)) := pe_weak (pe_un un_neg ha) fun _ _ _ q => r_neg q
end
end LW

/-! LwD: argument lists, displays, subscripts, slices, built-in calls, attributes. -/
namespace LW
open PySem L2 PyProof.Rows

/-! ### argument lists -/
inductive RepTL (mg : Glob) (N : Prot) (c : List Addr) (H : Hp) : List V → List D → Prop where
  | nil : RepTL mg N c H [] []
  | cons {v : V} {d : D} {vs : List V} {ds : List D} (h : RepT mg N c H v d) (t : RepTL mg N c H vs ds) : RepTL mg N c H (v :: vs) (d :: ds)
abbrev SA := Fx (List D)
abbrev ToldA := Prot → List Addr → Hp → List V → List D → Prop
def tAX (mg : Glob) (R : ToldA) (f : SA) : TA := fun σ H Q => ∃ (E : En) (N : Prot) (c : List Addr) (env : Env) (st : Sto) (d : List D) (st' : Sto), Rel mg E N c env st σ H ∧ f env st = some (d, st') ∧
  ∀ vs N' c' H', Ex N c H N' c' H' → Wd mg N' c' H' st' → R N' c' H' vs d → Q vs H'
abbrev tA (mg : Glob) (f : SA) : TA := tAX mg (RepL mg) f
abbrev tAP (mg : Glob) (f : SA) : TA := tAX mg (RepTL mg) f
def aNil : SA := fun _ st => some ([], st)
def aCons (f : SE) (g : SA) : SA := fun env st => match f env st with
  | none => none
  | some (d, s1) => match g env s1 with
    | none => none
    | some (ds, s2) => some (d :: ds, s2)
section
variable {mg : Glob} {X : Cx} {e : Expr} {es : List Expr} {f : SE} {g : SA}
theorem RepTL.ex {N N' : Prot} {c c' : List Addr} {H H' : Hp} {st : Sto} (x : Ex N c H N' c' H') (W : Wd mg N c H st) : ∀ {vs : List V} {ds : List D}, RepTL mg N c H vs ds → RepTL mg N' c' H' vs ds
  | _, _, .nil => .nil
  | _, _, .cons h t => .cons (RepT.ex x W h) (RepTL.ex x W t)
theorem RepL.toT {N : Prot} {c : List Addr} {H : Hp} : ∀ {vs : List V} {ds : List D}, RepL mg N c H vs ds → RepTL mg N c H vs ds
  | _, _, .nil => .nil
  | _, _, .cons h t => .cons (.inl h) (RepL.toT t)
theorem a_nil : PA X [] (tA mg aNil) := pa_weak pa_nil fun σ H Q ⟨E, N, c, env, st, d, st', R, q, k⟩ => by
  cases q
  exact k [] N c H Ex.refl R.wd .nil
theorem p_nil : PA X [] (tAP mg aNil) := pa_weak pa_nil fun σ H Q ⟨E, N, c, env, st, d, st', R, q, k⟩ => by
  cases q
  exact k [] N c H Ex.refl R.wd .nil
theorem a_cons (ha : PE X e (tE mg f)) (hr : PA X es (tA mg g)) (hs : starEach (e :: es) X.env = (false, eval e X.env) :: starEach es X.env := by rfl) : PA X (e :: es) (tA mg (aCons f g)) := pa_weak (pa_cons ha hr hs) fun σ H Q ⟨E, N, c, env, st, d, st', R, q, k⟩ => by
  unfold aCons at q
  split at q
  · cases q
  · rename_i d1 s1 q1
    split at q
    · cases q
    · rename_i ds s2 q2
      cases q
      refine ⟨E, N, c, env, st, d1, s1, R, q1, fun v N1 c1 H1 x1 W1 r1 => ?_⟩
      exact ⟨E, N1, c1, env, s1, ds, _, R.ex x1 W1, q2, fun vs N2 c2 H2 x2 W2 r2 => k _ N2 c2 H2 (x1.trans x2 R.wd) W2 (.cons (Rep.tr (x2.tr W1) r1) r2)⟩
theorem p_cons (ha : PE X e (tP mg f)) (hr : PA X es (tAP mg g)) (hs : starEach (e :: es) X.env = (false, eval e X.env) :: starEach es X.env := by rfl) : PA X (e :: es) (tAP mg (aCons f g)) := pa_weak (pa_cons ha hr hs) fun σ H Q ⟨E, N, c, env, st, d, st', R, q, k⟩ => by
  unfold aCons at q
  split at q
  · cases q
  · rename_i d1 s1 q1
    split at q
    · cases q
    · rename_i ds s2 q2
      cases q
      refine ⟨E, N, c, env, st, d1, s1, R, q1, fun v N1 c1 H1 x1 W1 r1 => ?_⟩
      exact ⟨E, N1, c1, env, s1, ds, _, R.ex x1 W1, q2, fun vs N2 c2 H2 x2 W2 r2 => k _ N2 c2 H2 (x1.trans x2 R.wd) W2 (.cons (RepT.ex x2 W1 r1) r2)⟩
end

/-! ### displays -/
def eTup (f : SA) : SE := fun env st => match f env st with
  | none => none
  | some (ds, s1) => if ds.length ≤ 1000000 then some (.tup ds, s1) else none
def lDisp (f : SA) : Fx (List D) := fun env st => match f env st with
  | none => none
  | some (ds, s1) => if ds.length ≤ 1000000 then some (ds, s1) else none
section
variable {mg : Glob} {X : Cx} {es : List Expr} {pos : Pos} {g : SA}
theorem d_tup {x1} (h : PA X es (tA mg g)) : PE X (.Tuple es x1 pos) (tE mg (eTup g)) := pe_weak (pe_tup h) fun σ H Q ⟨E, N, c, env, st, d, st', R, q, k⟩ => by
  unfold eTup at q
  split at q
  · cases q
  · rename_i ds s1 q1
    split at q
    · rename_i hl
      cases q
      refine ⟨E, N, c, env, st, ds, _, R, q1, fun vs N1 c1 H1 x1 W1 r1 => ⟨sz6 (by rw [r1.length]; exact hl), fun p hp => ?_⟩⟩
      exact k _ _ _ _ (x1.trans (Ex.laid W1 hp) R.wd) (W1.laid hp) (Rep.laidT W1 hp r1)
    · cases q
theorem d_lst (h : PA X es (tA mg g)) : PE X (.List es pos) (tL mg (lDisp g)) := pe_weak (pe_lst h) fun σ H Q ⟨E, N, c, env, st, d, st', R, q, k⟩ => by
  unfold lDisp at q
  split at q
  · cases q
  · rename_i ds s1 q1
    split at q
    · rename_i hl
      cases q
      refine ⟨E, N, c, env, st, _, _, R, q1, fun vs N1 c1 H1 x1 W1 r1 => ⟨sz6 (by rw [r1.length]; exact hl), fun p hp => ?_⟩⟩
      exact k _ _ _ _ (x1.trans (Ex.laidN W1 hp) R.wd) (W1.laidN hp) (back_N R.wd x1 W1 (RN.laid W1 hp r1))
    · cases q
end

/-! ### subscripts -/
def oIx : D → D → Sto → Option D := fun x y st => match y with
  | .int i => match x with
    | .tup xs => atI xs i
    | .str z => if z.length ≤ 1000000 then (match atI z.cps.toList i with | some ch => some (.str ⟨#[ch]⟩) | none => none) else none
    | x => match lstR st x with
      | some xs => atI xs i
      | none => none
  | _ => none
theorem RepL.atI {mg : Glob} {N : Prot} {c : List Addr} {H : Hp} {vs : List V} {ds : List D} {i : Int} {d : D} (r : RepL mg N c H vs ds) (h : L2.atI ds i = some d) : ∃ v, L2.atI vs i = some v ∧ Rep mg N c H v d := by
  unfold L2.atI at h ⊢
  rw [r.length]
  cases e : ixN ds.length i with
  | none => rw [e] at h; cases h
  | some j =>
    rw [e] at h
    exact r.get h
theorem ok_ix {mg : Glob} : OpOk mg (RE mg) (rIx mg.K) oIx := by
  intro N c H st u v x y d Q W p1 p2 e k
  unfold oIx at e
  split at e
  · rename_i i
    split at e
    · rename_i xs
      obtain ⟨a, vs, rfl, ha, r⟩ := p1.tup
      obtain ⟨w, hw, rw_⟩ := r.atI e
      exact .inr (.inl ⟨a, vs, i, w, rfl, p2.int, SqT.of ha, hw, k w N c H Ex.refl W rw_⟩)
    · rename_i z
      split at e
      · rename_i hl
        split at e
        · rename_i ch hch
          cases e
          exact .inr (.inr ⟨z, i, ch, p1.str, p2.int, sz6 hl, hch, k _ N c H Ex.refl W (.str _)⟩)
        · cases e
      · cases e
    · split at e
      · rename_i xs hx
        obtain ⟨a, vs, rfl, ha, r⟩ := RepT.read W p1 hx
        obtain ⟨w, hw, rw_⟩ := r.atI e
        exact .inl ⟨a, vs, i, w, rfl, p2.int, ha, hw, k w N c H Ex.refl W rw_⟩
      · cases e
  · cases e
section
variable {mg : Glob} {X : Cx} {a b : Expr} {pos p2 : Pos} {fa fb : SE}
theorem d_ix (ha : PE X a (tP mg fa)) (hb : PE X b (tP mg fb)) (hs : PlainIx b := by exact fun _ _ => rfl) (hK : X.K = mg.K := by rfl) : PE X (.Subscript a b pos) (tE mg (eOp oIx fa fb)) := pe_weak (pe_ix (hK ▸ ix_seq) ha hb hs) fun _ _ _ h => r_op ok_ix back_E h
end

/-! ### slices -/
def cutD {α : Type} (xs : List α) (lo hi : Option Int) : List α := (xs.drop (HT.sIx xs.length 0 lo)).take (HT.sIx xs.length xs.length hi - HT.sIx xs.length 0 lo)
/-- a part of a slice -/
abbrev SO := Fx (Option Int)
def tOX (mg : Glob) (f : SO) : TO := fun σ H Q => ∃ (E : En) (N : Prot) (c : List Addr) (env : Env) (st : Sto) (d : Option Int) (st' : Sto), Rel mg E N c env st σ H ∧ f env st = some (d, st') ∧
  ∀ N' c' H', Ex N c H N' c' H' → Wd mg N' c' H' st' → Q d H'
def oNone : SO := fun _ st => some (none, st)
def oSome (f : SE) : SO := fun env st => match f env st with
  | some (.int i, s1) => some (some i, s1)
  | _ => none
def eSl {α : Type} (op : D → Option Int → Option Int → Sto → Option α) (f : SE) (lo hi : SO) : Fx α := fun env st => match f env st with
  | none => none
  | some (x, s1) => match lo env s1 with
    | none => none
    | some (l, s2) => match hi env s2 with
      | none => none
      | some (h, s3) => match op x l h s3 with
        | none => none
        | some d => some (d, s3)
def slL : D → Option Int → Option Int → Sto → Option (List D) := fun x lo hi st => match lstR st x with
  | some xs => some (cutD xs lo hi)
  | none => none
def slT : D → Option Int → Option Int → Sto → Option D := fun x lo hi _ => match x with
  | .tup xs => some (.tup (cutD xs lo hi))
  | _ => none
theorem po_weak {X : Cx} {e : Option Expr} {t t' : TO} (h : PO X e t) (w : ∀ σ H Q, t' σ H Q → t σ H Q) : PO X e t' := ⟨fun pins s σ H Q I q => h.run pins s σ H Q I (w σ H Q q)⟩
section
variable {mg : Glob} {X : Cx} {e : Expr} {lo hi : Option Expr} {pos p2 : Pos} {f : SE} {gl gh : SO}
theorem o_none : PO X none (tOX mg oNone) := po_weak po_none fun σ H Q ⟨E, N, c, env, st, d, st', R, q, k⟩ => by
  cases q
  exact k N c H Ex.refl R.wd
theorem o_some (h : PE X e (tP mg f)) : PO X (some e) (tOX mg (oSome f)) := po_weak (po_some h) fun σ H Q ⟨E, N, c, env, st, d, st', R, q, k⟩ => by
  unfold oSome at q
  split at q
  · rename_i i s1 q1
    cases q
    exact ⟨E, N, c, env, st, _, _, R, q1, fun v N1 c1 H1 x1 W1 r1 => ⟨i, r1.int, k N1 c1 H1 x1 W1⟩⟩
  · cases q
def SlOk {α : Type} (mg : Glob) (R : Told α) (r : V → Option Int → Option Int → Hp → VK → Prop) (op : D → Option Int → Option Int → Sto → Option α) : Prop := ∀ (N : Prot) (c : List Addr) (H : Hp) (st : Sto) (u : V) (lo hi : Option Int) (x : D) (d : α) (Q : VK), Wd mg N c H st → RepT mg N c H u x → op x lo hi st = some d →
  (∀ w N' c' H', Ex N c H N' c' H' → Wd mg N' c' H' st → R N c H N' c' H' w d → Q w H') → r u lo hi H Q
theorem r_sl {α : Type} {Rt : Told α} {r : V → Option Int → Option Int → Hp → VK → Prop} {op : D → Option Int → Option Int → Sto → Option α} (hk : SlOk mg Rt r op) (hb : Back mg Rt) {σ : L2.St} {H : Hp} {Q : VK} (h : tX mg Rt (eSl op f gl gh) σ H Q) : tSl r (tP mg f) (tOX mg gl) (tOX mg gh) σ H Q := by
  obtain ⟨E, N, c, env, st, d, st', R0, q, k⟩ := h
  unfold eSl at q
  split at q
  · cases q
  · rename_i x s1 q1
    split at q
    · cases q
    · rename_i l s2 q2
      split at q
      · cases q
      · rename_i hh s3 q3
        split at q
        · cases q
        · rename_i d0 q4
          cases q
          refine ⟨E, N, c, env, st, x, s1, R0, q1, fun v1 N1 c1 H1 x1 W1 p1 => ?_⟩
          refine ⟨E, N1, c1, env, s1, l, s2, R0.ex x1 W1, q2, fun N2 c2 H2 x2 W2 => ?_⟩
          have x12 := x1.trans x2 R0.wd
          refine ⟨E, N2, c2, env, s2, hh, _, R0.ex x12 W2, q3, fun N3 c3 H3 x3 W3 => ?_⟩
          have x13 := x12.trans x3 R0.wd
          refine hk N3 c3 H3 _ v1 l hh x _ Q W3 (RepT.ex x3 W2 (RepT.ex x2 W1 p1)) q4 fun w N' c' H' x4 W4 p4 => ?_
          exact k w N' c' H' (x13.trans x4 R0.wd) W4 (hb R0.wd x13 W3 p4)
theorem RepL.cut {N : Prot} {c : List Addr} {H : Hp} {vs : List V} {ds : List D} (r : RepL mg N c H vs ds) (lo hi : Option Int) : RepL mg N c H (cutV vs lo hi) (cutD ds lo hi) := by
  unfold cutV cutD
  rw [r.length]
  exact (r.drop _).take _
theorem ok_slL : SlOk mg (RN mg) (rSlL mg.K) slL := by
  intro N c H st u lo hi x d Q W p1 e k
  unfold slL at e
  split at e
  · rename_i xs hx
    cases e
    obtain ⟨a, vs, rfl, ha, r⟩ := RepT.read W p1 hx
    exact ⟨a, vs, rfl, ha, fun p hp => k _ _ _ _ (Ex.laidN W hp) (W.laidN hp) (RN.laid W hp (r.cut lo hi))⟩
  · cases e
theorem cut_whole {α : Type} {xs : List α} {lo hi : Option Int} (h : HT.sIx xs.length 0 lo = 0 ∧ HT.sIx xs.length xs.length hi = xs.length) : cutD xs lo hi = xs := by
  unfold cutD
  rw [h.1, h.2, List.drop_zero, Nat.sub_zero, List.take_length]
theorem ok_slT {K : PySem.W.Frag} : SlOk mg (RE mg) (rSlA K) slT := by
  intro N c H st u lo hi x d Q W p1 e k
  unfold slT at e
  split at e
  · rename_i xs
    cases e
    have p1' := p1
    obtain ⟨a, vs, rfl, ha, r⟩ := p1.tup
    have rep : Rep mg N c H (.ref a) (.tup xs) := by
      rcases p1' with z | ⟨_, _, _, _, z, _⟩
      · exact z
      · cases z
    refine ⟨a, vs, rfl, SqT.of ha, fun hw => ?_, fun _ p hp => ?_⟩
    · rw [r.length] at hw
      rw [cut_whole hw] at k
      exact k _ N c H Ex.refl W rep
    · exact k _ _ _ _ (Ex.laid W hp) (W.laid hp) (Rep.laidT W hp (r.cut lo hi))
  · cases e
theorem d_slL (he : PE X e (tP mg f)) (hl : PO X lo (tOX mg gl)) (hu : PO X hi (tOX mg gh)) (hK : X.K = mg.K := by rfl) : PE X (.Subscript e (.Slice lo hi none p2) pos) (tL mg (eSl slL f gl gh)) := pe_weak (pe_slice (hK ▸ sl_list) he hl hu) fun _ _ _ h => r_sl ok_slL back_N h
theorem d_slT (he : PE X e (tP mg f)) (hl : PO X lo (tOX mg gl)) (hu : PO X hi (tOX mg gh)) : PE X (.Subscript e (.Slice lo hi none p2) pos) (tE mg (eSl slT f gl gh)) := pe_weak (pe_slice sl_tupA he hl hu) fun _ _ _ h => r_sl ok_slT back_E h
end
end LW

/-! LwE: built-in calls; defs by their promise, calls of defs, methods, classes, properties. -/
namespace LW
open PySem L2 PyProof.Rows

/-! ### built-in calls -/
def eBi {α : Type} (g : List D → Sto → Option α) (f : SA) : Fx α := fun env st => match f env st with
  | none => none
  | some (ds, s1) => match g ds s1 with
    | none => none
    | some d => some (d, s1)
def BiOk {α : Type} (mg : Glob) (R : Told α) (r : List V → Hp → VK → Prop) (g : List D → Sto → Option α) : Prop := ∀ (N : Prot) (c : List Addr) (H : Hp) (st : Sto) (us : List V) (ds : List D) (d : α) (Q : VK), Wd mg N c H st → RepTL mg N c H us ds → g ds st = some d →
  (∀ w N' c' H', Ex N c H N' c' H' → Wd mg N' c' H' st → R N c H N' c' H' w d → Q w H') → r us H Q
def orB {α : Type} (f g : List D → Sto → Option α) : List D → Sto → Option α := fun ds st => match f ds st with
  | some d => some d
  | none => g ds st
section
variable {α : Type} {mg : Glob} {R : Told α} {r r' : List V → Hp → VK → Prop} {g g' : List D → Sto → Option α} {f : SA} {X : Cx} {x : Str} {e : Expr} {es : List Expr} {p pos : Pos}
theorem BiOk.or (h : BiOk mg R r g) (h' : BiOk mg R r' g') : BiOk mg R (fun xs H Q => r xs H Q ∨ r' xs H Q) (orB g g') := by
  intro N c H st us ds d Q W p q k
  unfold orB at q
  split at q
  · rename_i d0 e0
    cases q
    exact .inl (h N c H st us ds _ Q W p e0 k)
  · exact .inr (h' N c H st us ds d Q W p q k)
theorem r_bi (hk : BiOk mg R r g) (hb : Back mg R) {σ : L2.St} {H : Hp} {Q : VK} (h : tX mg R (eBi g f) σ H Q) : tCB r (tAP mg f) σ H Q := by
  obtain ⟨E, N, c, env, st, d, st', R0, q, k⟩ := h
  unfold eBi at q
  split at q
  · cases q
  · rename_i ds s1 q1
    split at q
    · cases q
    · rename_i d0 q2
      cases q
      refine ⟨E, N, c, env, st, ds, _, R0, q1, fun vs N1 c1 H1 x1 W1 p1 => ?_⟩
      refine hk N1 c1 H1 _ vs ds _ Q W1 p1 q2 fun w N' c' H' x2 W2 p2 => ?_
      exact k w N' c' H' (x1.trans x2 R0.wd) W2 (hb R0.wd x1 W1 p2)
/-- f(e, ..), f a built-in function; T(e, ..), T a built-in class -/
theorem d_bi {id : String} (hc : CallR X (.builtin id) r) (hk : BiOk mg R r g) (hb : Back mg R) (hg : Gl X x) (hm : X.mg x = none) (hv : bootBuiltins x = some (.builtin id)) (ha : PA X (e :: es) (tAP mg f)) (hn : x ≠ "__name__" := by decide) (hdb : (x == ("__debug__" : Str)) = false := by decide)
    (he : starEach (e :: es) X.env = (false, eval e X.env) :: starEach es X.env := by rfl) (hpl : (backTo pos (starEach es X.env)).any (·.1) = false := by rfl) : PE X (.Call (.Name x p) (e :: es) [] pos) (tX mg R (eBi g f)) :=
  pe_weak (pe_callB hc hg hm hv ha hn hdb he hpl) fun _ _ _ h => r_bi hk hb h
theorem d_bt {T : String} (hc : CallR X (.type T) r) (hk : BiOk mg R r g) (hb : Back mg R) (hg : Gl X x) (hm : X.mg x = none) (hv : bootBuiltins x = some (.type T)) (ha : PA X (e :: es) (tAP mg f)) (hn : x ≠ "__name__" := by decide) (hdb : (x == ("__debug__" : Str)) = false := by decide)
    (he : starEach (e :: es) X.env = (false, eval e X.env) :: starEach es X.env := by rfl) (hpl : (backTo pos (starEach es X.env)).any (·.1) = false := by rfl) : PE X (.Call (.Name x p) (e :: es) [] pos) (tX mg R (eBi g f)) :=
  pe_weak (pe_callTy hc hg hm hv ha hn hdb he hpl) fun _ _ _ h => r_bi hk hb h
end
section
variable {mg : Glob} {N : Prot} {c : List Addr} {H : Hp} {us : List V}
theorem tl1 {d : D} (h : RepTL mg N c H us [d]) : ∃ u, us = [u] ∧ RepT mg N c H u d := by
  cases h with
  | cons h t => cases t; exact ⟨_, rfl, h⟩
theorem tl2 {d d' : D} (h : RepTL mg N c H us [d, d']) : ∃ u u', us = [u, u'] ∧ RepT mg N c H u d ∧ RepT mg N c H u' d' := by
  cases h with
  | cons h t => obtain ⟨u', rfl, h'⟩ := tl1 t; exact ⟨_, _, rfl, h, h'⟩
end
/-- len of a list, a tuple, a text -/
def gLen : List D → Sto → Option D := fun ds st => match ds with
  | [.tup xs] => some (.int xs.length)
  | [.str z] => if z.length ≤ 1000000 then some (.int z.length) else none
  | [x] => match lstR st x with
    | some xs => some (.int xs.length)
    | none => none
  | _ => none
theorem ok_len {mg : Glob} : BiOk mg (RE mg) (fun xs H Q => (∃ p ys, xs = [.ref p] ∧ (SqL mg.K H p ys ∨ SqT mg.K H p ys) ∧ Q (.int ys.length) H) ∨ ∃ z, xs = [.str z] ∧ z.length ≤ sizeLine ∧ Q (.int z.length) H) gLen := by
  intro N c H st us ds d Q W p q k
  unfold gLen at q
  split at q
  · rename_i xs
    cases q
    obtain ⟨u, rfl, h⟩ := tl1 p
    obtain ⟨a, vs, rfl, ha, r⟩ := h.tup
    refine .inl ⟨a, vs, rfl, .inr (SqT.of ha), ?_⟩
    rw [r.length]
    exact k _ N c H Ex.refl W (.int _)
  · rename_i z
    split at q
    · rename_i hl
      cases q
      obtain ⟨u, rfl, h⟩ := tl1 p
      exact .inr ⟨z, by rw [h.str], sz6 hl, k _ N c H Ex.refl W (.int _)⟩
    · cases q
  · split at q
    · rename_i xs hx
      cases q
      obtain ⟨u, rfl, h⟩ := tl1 p
      obtain ⟨a, vs, rfl, ha, r⟩ := RepT.read W h hx
      refine .inl ⟨a, vs, rfl, .inl ha, ?_⟩
      rw [r.length]
      exact k _ N c H Ex.refl W (.int _)
    · cases q
  · cases q
/-- a list of whole numbers -/
def intsOf : List D → Option (List Int)
  | [] => some []
  | .int i :: r => match intsOf r with
    | some ns => some (i :: ns)
    | none => none
  | _ :: _ => none
theorem intsOf_eq : ∀ {xs : List D} {ns : List Int}, intsOf xs = some ns → xs = ns.map D.int
  | [], _, e => by cases e; rfl
  | .int i :: r, ns, e => by
    unfold intsOf at e
    split at e
    · rename_i ms hm
      cases e
      rw [intsOf_eq hm]; rfl
    · cases e
  | .non :: _, _, e => by cases e
  | .bl _ :: _, _, e => by cases e
  | .str _ :: _, _, e => by cases e
  | .ty _ :: _, _, e => by cases e
  | .tup _ :: _, _, e => by cases e
  | .lst _ :: _, _, e => by cases e
  | .fro _ :: _, _, e => by cases e
  | .cell _ :: _, _, e => by cases e
  | .obj _ _ _ :: _, _, e => by cases e
  | .cls _ :: _, _, e => by cases e
  | .dic _ _ :: _, _, e => by cases e
  | .dit _ _ :: _, _, e => by cases e
theorem intsOf_map : ∀ (ns : List Int), intsOf (ns.map D.int) = some ns
  | [] => rfl
  | n :: r => by
    show (match intsOf (r.map D.int) with | some ns => some (n :: ns) | none => none) = _
    rw [intsOf_map r]
def lstI (st : Sto) (x : D) : Option (List Int) := match lstR st x with
  | some xs => intsOf xs
  | none => none
theorem RepT.ints {mg : Glob} {N : Prot} {c : List Addr} {H : Hp} {st : Sto} {u : V} {x : D} {ns : List Int} (W : Wd mg N c H st) (h : RepT mg N c H u x) (e : lstI st x = some ns) : ∃ a, u = .ref a ∧ SqL mg.K H a (ns.map V.int) := by
  unfold lstI at e
  split at e
  · rename_i xs hx
    obtain ⟨a, vs, rfl, ha, r⟩ := RepT.read W h hx
    rw [intsOf_eq e] at r
    rw [r.of_ints] at ha
    exact ⟨a, rfl, ha⟩
  · cases e
def gSum : List D → Sto → Option D := fun ds st => match ds with
  | [x] => match lstI st x with
    | some ns => some (.int ns.sum)
    | none => none
  | _ => none
theorem ok_sum {mg : Glob} : BiOk mg (RE mg) (rSum mg.K) gSum := by
  intro N c H st us ds d Q W p q k
  unfold gSum at q
  split at q
  · split at q
    · rename_i ns hn
      cases q
      obtain ⟨u, rfl, h⟩ := tl1 p
      obtain ⟨a, rfl, ha⟩ := h.ints W hn
      exact ⟨a, ns, rfl, ha, k _ N c H Ex.refl W (.int _)⟩
    · cases q
  · cases q
def maxL : List Int → Option Int
  | [] => none
  | x :: r => match maxL r with
    | none => some x
    | some m => some (if m < x then x else m)
def minL : List Int → Option Int
  | [] => none
  | x :: r => match minL r with
    | none => some x
    | some m => some (if x < m then x else m)
theorem maxL_ok : ∀ {l : List Int} {m : Int}, maxL l = some m → m ∈ l ∧ ∀ y ∈ l, y ≤ m
  | [], _, e => by cases e
  | x :: r, m, e => by
    unfold maxL at e
    cases h : maxL r with
    | none =>
      rw [h] at e
      cases e
      cases r with
      | nil => exact ⟨List.mem_cons_self, fun y hy => by simp at hy; omega⟩
      | cons z t =>
        unfold maxL at h
        split at h <;> cases h
    | some k =>
      rw [h] at e
      dsimp only at e
      obtain ⟨h1, h2⟩ := maxL_ok h
      split at e
      · cases e
        exact ⟨List.mem_cons_self, fun y hy => (List.mem_cons.mp hy).elim (fun e => by omega) fun z => by have := h2 y z; omega⟩
      · cases e
        exact ⟨List.mem_cons_of_mem _ h1, fun y hy => (List.mem_cons.mp hy).elim (fun e => by omega) fun z => h2 y z⟩
theorem minL_ok : ∀ {l : List Int} {m : Int}, minL l = some m → m ∈ l ∧ ∀ y ∈ l, m ≤ y
  | [], _, e => by cases e
  | x :: r, m, e => by
    unfold minL at e
    cases h : minL r with
    | none =>
      rw [h] at e
      cases e
      cases r with
      | nil => exact ⟨List.mem_cons_self, fun y hy => by simp at hy; omega⟩
      | cons z t =>
        unfold minL at h
        split at h <;> cases h
    | some k =>
      rw [h] at e
      dsimp only at e
      obtain ⟨h1, h2⟩ := minL_ok h
      split at e
      · cases e
        exact ⟨List.mem_cons_self, fun y hy => (List.mem_cons.mp hy).elim (fun e => by omega) fun z => by have := h2 y z; omega⟩
      · cases e
        exact ⟨List.mem_cons_of_mem _ h1, fun y hy => (List.mem_cons.mp hy).elim (fun e => by omega) fun z => h2 y z⟩
def gMax : List D → Sto → Option D := fun ds st => match ds with
  | [.int i, .int j] => some (.int (if j > i then j else i))
  | [x] => match lstI st x with
    | some ns => match maxL ns with
      | some m => some (.int m)
      | none => none
    | none => none
  | _ => none
def gMin : List D → Sto → Option D := fun ds st => match ds with
  | [.int i, .int j] => some (.int (if j < i then j else i))
  | [x] => match lstI st x with
    | some ns => match minL ns with
      | some m => some (.int m)
      | none => none
    | none => none
  | _ => none
theorem ok_max {mg : Glob} : BiOk mg (RE mg) (fun xs H Q => (∃ i j, xs = [.int i, .int j] ∧ Q (.int (if j > i then j else i)) H) ∨ rMax mg.K xs H Q) gMax := by
  intro N c H st us ds d Q W p q k
  unfold gMax at q
  split at q
  · rename_i i j
    cases q
    obtain ⟨u, u', rfl, h, h'⟩ := tl2 p
    exact .inl ⟨i, j, by rw [h.int, h'.int], k _ N c H Ex.refl W (.int _)⟩
  · split at q
    · rename_i ns hn
      split at q
      · rename_i m hm
        cases q
        obtain ⟨u, rfl, h⟩ := tl1 p
        obtain ⟨a, rfl, ha⟩ := h.ints W hn
        obtain ⟨h1, h2⟩ := maxL_ok hm
        refine .inr ⟨a, ns, rfl, ha, List.length_pos_of_mem h1, fun m' h3 h4 => ?_⟩
        have e : m' = m := by
          have := h2 m' h3
          have := h4 m h1
          omega
        rw [e]
        exact k _ N c H Ex.refl W (.int _)
      · cases q
    · cases q
  · cases q
theorem ok_min {mg : Glob} : BiOk mg (RE mg) (fun xs H Q => (∃ i j, xs = [.int i, .int j] ∧ Q (.int (if j < i then j else i)) H) ∨ rMin mg.K xs H Q) gMin := by
  intro N c H st us ds d Q W p q k
  unfold gMin at q
  split at q
  · rename_i i j
    cases q
    obtain ⟨u, u', rfl, h, h'⟩ := tl2 p
    exact .inl ⟨i, j, by rw [h.int, h'.int], k _ N c H Ex.refl W (.int _)⟩
  · split at q
    · rename_i ns hn
      split at q
      · rename_i m hm
        cases q
        obtain ⟨u, rfl, h⟩ := tl1 p
        obtain ⟨a, rfl, ha⟩ := h.ints W hn
        obtain ⟨h1, h2⟩ := minL_ok hm
        refine .inr ⟨a, ns, rfl, ha, List.length_pos_of_mem h1, fun m' h3 h4 => ?_⟩
        have e : m' = m := by
          have := h2 m' h3
          have := h4 m h1
          omega
        rw [e]
        exact k _ N c H Ex.refl W (.int _)
      · cases q
    · cases q
  · cases q
/-- list(x), tuple(x) -/
def gList : List D → Sto → Option (List D) := fun ds st => match ds with
  | [.tup xs] => some xs
  | [x] => lstR st x
  | _ => none
theorem ok_list {mg : Glob} : BiOk mg (RN mg) (fun xs H Q => ∃ p ys, xs = [.ref p] ∧ (SqL mg.K H p ys ∨ SqT mg.K H p ys) ∧ ∀ l, H l = none → Q (.ref l) (upd H l (.lst ys))) gList := by
  intro N c H st us ds d Q W p q k
  unfold gList at q
  split at q
  · cases q
    obtain ⟨u, rfl, h⟩ := tl1 p
    obtain ⟨a, vs, rfl, ha, r⟩ := h.tup
    exact ⟨a, vs, rfl, .inr (SqT.of ha), fun l hl => k _ _ _ _ (Ex.laidN W hl) (W.laidN hl) (RN.laid W hl r)⟩
  · obtain ⟨u, rfl, h⟩ := tl1 p
    obtain ⟨a, vs, rfl, ha, r⟩ := RepT.read W h q
    exact ⟨a, vs, rfl, .inl ha, fun l hl => k _ _ _ _ (Ex.laidN W hl) (W.laidN hl) (RN.laid W hl r)⟩
  · cases q
section
variable {mg : Glob} {X : Cx} {e : Expr} {es : List Expr} {p pos : Pos} {f : SA}
theorem d_len (hm : X.mg "len" = none) (ha : PA X (e :: es) (tAP mg f)) (hg : Gl X "len" := by rfl) (he : starEach (e :: es) X.env = (false, eval e X.env) :: starEach es X.env := by rfl) (hpl : (backTo pos (starEach es X.env)).any (·.1) = false := by rfl) (hK : X.K = mg.K := by rfl) : PE X (.Call (.Name "len" p) (e :: es) [] pos) (tE mg (eBi gLen f)) :=
  d_bi (hK ▸ CallR.or call_len_seq call_len_str) ok_len back_E hg hm PySem.boot_len ha (by decide) (by decide) he hpl
theorem d_sum (hc : X.calm = true) (hm : X.mg "sum" = none) (ha : PA X (e :: es) (tAP mg f)) (hg : Gl X "sum" := by rfl) (he : starEach (e :: es) X.env = (false, eval e X.env) :: starEach es X.env := by rfl) (hpl : (backTo pos (starEach es X.env)).any (·.1) = false := by rfl) (hK : X.K = mg.K := by rfl) : PE X (.Call (.Name "sum" p) (e :: es) [] pos) (tE mg (eBi gSum f)) :=
  d_bi (hK ▸ cr_sum hc) ok_sum back_E hg hm (by decide +kernel) ha (by decide) (by decide) he hpl
theorem d_max (hc : X.calm = true) (hm : X.mg "max" = none) (ha : PA X (e :: es) (tAP mg f)) (hg : Gl X "max" := by rfl) (he : starEach (e :: es) X.env = (false, eval e X.env) :: starEach es X.env := by rfl) (hpl : (backTo pos (starEach es X.env)).any (·.1) = false := by rfl) (hK : X.K = mg.K := by rfl) : PE X (.Call (.Name "max" p) (e :: es) [] pos) (tE mg (eBi gMax f)) :=
  d_bi (hK ▸ CallR.or (call_max2 hc) (cr_max hc)) ok_max back_E hg hm (by decide +kernel) ha (by decide) (by decide) he hpl
theorem d_min (hc : X.calm = true) (hm : X.mg "min" = none) (ha : PA X (e :: es) (tAP mg f)) (hg : Gl X "min" := by rfl) (he : starEach (e :: es) X.env = (false, eval e X.env) :: starEach es X.env := by rfl) (hpl : (backTo pos (starEach es X.env)).any (·.1) = false := by rfl) (hK : X.K = mg.K := by rfl) : PE X (.Call (.Name "min" p) (e :: es) [] pos) (tE mg (eBi gMin f)) :=
  d_bi (hK ▸ CallR.or (call_min2 hc) (cr_min hc)) ok_min back_E hg hm (by decide +kernel) ha (by decide) (by decide) he hpl
theorem d_list (hm : X.mg "list" = none) (ha : PA X (e :: es) (tAP mg f)) (hg : Gl X "list" := by rfl) (he : starEach (e :: es) X.env = (false, eval e X.env) :: starEach es X.env := by rfl) (hpl : (backTo pos (starEach es X.env)).any (·.1) = false := by rfl) (hK : X.K = mg.K := by rfl) : PE X (.Call (.Name "list" p) (e :: es) [] pos) (tL mg (eBi gList f)) :=
  d_bt (hK ▸ call_list_of) ok_list back_N hg hm (by decide +kernel) ha (by decide) (by decide) he hpl
end
end LW

/-! LwF: repr, isinstance; defs by their promise. -/
namespace LW
open PySem L2 PyProof.Rows

/-! ### repr -/
/-! ### isinstance -/
inductive Ty7 where
  | non | bl | int | str | lst | tup | dic
def Ty7.name : Ty7 → String
  | .non => "NoneType"
  | .bl => "bool"
  | .int => "int"
  | .str => "str"
  | .lst => "list"
  | .tup => "tuple"
  | .dic => "dict"
/-- a dict in a cell -/
def isDcl (st : Sto) (k : Nat) : Bool := (dcG st k).isSome
theorem Wd.dcl {mg : Glob} {N : Prot} {c : List Addr} {H : Hp} {st : Sto} (W : Wd mg N c H st) {k : Nat} {a : Addr} (hc : c[k]? = some a) (e : isDcl st k = true) : (∃ kvs, H a = some (.dK kvs)) ∨ ∃ od kvs, H a = some (.frz od (.dK kvs)) := by
  unfold isDcl at e
  cases h : LW.dcG st k with
  | none => rw [h] at e; cases e
  | some p =>
    obtain ⟨kvs, ha, _⟩ := W.dcG hc h
    exact ha.imp (fun z => ⟨_, z⟩) fun ⟨od, z⟩ => ⟨_, _, z⟩
def ty7 (st : Sto) : D → Option Ty7
  | .non => some .non
  | .bl _ => some .bl
  | .int _ => some .int
  | .str _ => some .str
  | .tup _ => some .tup
  | .lst _ => some .lst
  | .cell k => match lcG st k with
    | some _ => some .lst
    | none => none
  | .dcl k => match isDcl st k with
    | true => some .dic
    | false => none
  | .dic _ _ => some .dic
  | .dit _ _ => none
  | _ => none
/-- a built-in class that is asked for -/
def kind7 (b : String) : Option Ty7 := if b = "int" then some .int else if b = "str" then some .str else if b = "list" then some .lst else if b = "tuple" then some .tup else if b = "dict" then some .dic else if b = "bool" then some .bl else none
def isi7 : Ty7 → Ty7 → Bool
  | .int, .int => true
  | .bl, .int => true
  | .bl, .bl => true
  | .str, .str => true
  | .lst, .lst => true
  | .tup, .tup => true
  | .dic, .dic => true
  | _, _ => false
theorem isi7_ok (t k : Ty7) (hk : k ≠ .non) : kitB t.name k.name = some (isi7 t k) := by
  cases k <;> first | exact absurd rfl hk | (cases t <;> decide +kernel)
theorem kind7_name {b : String} {k : Ty7} (h : kind7 b = some k) : k.name = b ∧ k ≠ .non := by
  unfold kind7 at h
  split at h
  · rename_i e; cases h; exact ⟨e.symm, by simp⟩
  · split at h
    · rename_i e; cases h; exact ⟨e.symm, by simp⟩
    · split at h
      · rename_i e; cases h; exact ⟨e.symm, by simp⟩
      · split at h
        · rename_i e; cases h; exact ⟨e.symm, by simp⟩
        · split at h
          · rename_i e; cases h; exact ⟨e.symm, by simp⟩
          · split at h
            · rename_i e; cases h; exact ⟨e.symm, by simp⟩
            · cases h
theorem ty7_of {mg : Glob} {N : Prot} {c : List Addr} {H : Hp} {st : Sto} {u : V} {x : D} {t : Ty7} {K : PySem.W.Frag} (W : Wd mg N c H st) (h : RepT mg N c H u x) (e : ty7 st x = some t) : TyX K H u (.type t.name) := by
  rcases h with h | ⟨a, vs, xs, rfl, rfl, ha, _, r⟩
  · cases h with
    | non => cases e; exact .base .non
    | bl b => cases e; exact .base (.bl b)
    | int i => cases e; exact .base (.int i)
    | str z => cases e; exact .base (.str z)
    | tup h _ => cases e; exact .base (.tup h)
    | lst h _ _ => cases e; exact .base (.lst h)
    | @cell k a hc =>
      have e : (match lcG st k with | some _ => some Ty7.lst | none => none) = some t := e
      cases hx : lcG st k with
      | none => rw [hx] at e; cases e
      | some xs =>
        rw [hx] at e
        cases e
        obtain ⟨vs, ha, _⟩ := W.lstC hc hx
        exact .base (.lst ha)
    | @dcl k a hc =>
      have e : (match isDcl st k with | true => some Ty7.dic | false => none) = some t := e
      cases hx : isDcl st k with
      | false => rw [hx] at e; cases e
      | true =>
        rw [hx] at e
        cases e
        rcases W.dcl hc hx with ⟨kvs, ha⟩ | ⟨od, kvs, ha⟩
        · exact .base (.dK ha)
        · exact .fDict ha
    | dic h _ _ _ => cases e; exact .base (.dK h)
    | dfz h _ _ _ => cases e; exact .fDict h
    | _ => cases e
  · cases e
    exact .base (.lst ha)
/-- an own class as isinstance sees it -/
structure CF (K : PySem.W.Frag) (C : Addr) : Prop where
  cl : Cls K C
  ha : PySem.W.findIn K (.ref C) "__class__" = some (some (.builtin "object.__class__"))
  hn : PySem.W.specialIn K (.builtin "object.__class__") "__get__" = some (some (.builtin "getset_descriptor.__get__"))
  htk : PySem.W.takesIn K (.builtin "object.__class__") = some true
  hm : PySem.W.mroIn K C (.type "object") = some true
/-- the own classes cs: none is a kind of another -/
structure Isi (mg : Glob) (cs : List Str) : Prop where
  cf : ∀ n C, n ∈ cs → mg.mg n = some (.ref C) → CF mg.K C
  oo : ∀ n m C C', n ∈ cs → m ∈ cs → mg.mg n = some (.ref C) → mg.mg m = some (.ref C') → PySem.W.kitOne mg.K (.ref C) (.ref C') = some (decide (n = m))
  bo : ∀ (t : Ty7) m C, m ∈ cs → mg.mg m = some (.ref C) → PySem.W.kitOne mg.K (.type t.name) (.ref C) = some false
  ob : ∀ n C (t : Ty7), n ∈ cs → mg.mg n = some (.ref C) → t ≠ .non → PySem.W.kitOne mg.K (.ref C) (.type t.name) = some false
def gIsi (cs : List Str) : List D → Sto → Option D := fun ds st => match ds with
  | [x, .ty b] => match kind7 b with
    | some k => match ty7 st x with
      | some t => some (.bl (isi7 t k))
      | none => match x with
        | .obj n _ _ => if n ∈ cs then some (.bl false) else none
        | _ => none
    | none => none
  | [x, .cls m] => if m ∈ cs then (match ty7 st x with
      | some _ => some (.bl false)
      | none => match x with
        | .obj n _ _ => if n ∈ cs then some (.bl (decide (n = m))) else none
        | _ => none) else none
  | _ => none
theorem RepT.obj {mg : Glob} {N : Prot} {c : List Addr} {H : Hp} {u : V} {cn : Str} {ns : List Str} {ds : List D} (h : RepT mg N c H u (.obj cn ns ds)) : ∃ a C dx fs, u = .ref a ∧ mg.mg cn = some (.ref C) ∧ H a = some (.ins C dx fs) ∧ fs.map (·.1) = ns ∧ RepL mg N c H (fs.map (·.2)) ds := by
  rcases h with h | ⟨_, _, _, _, e, _⟩
  · cases h with
    | obj hc ha _ hn r => exact ⟨_, _, _, _, rfl, hc, ha, hn, r⟩
  · cases e
theorem RepT.cls {mg : Glob} {N : Prot} {c : List Addr} {H : Hp} {u : V} {cn : Str} (h : RepT mg N c H u (.cls cn)) : ∃ C, u = .ref C ∧ mg.mg cn = some (.ref C) := by
  rcases h with h | ⟨_, _, _, _, e, _⟩
  · cases h with
    | cls hc => exact ⟨_, rfl, hc⟩
  · cases e
theorem ok_isi {mg : Glob} {cs : List Str} (T : Isi mg cs) : BiOk mg (RE mg) (rIsi mg.K) (gIsi cs) := by
  intro N c H st us ds d Q W p q k
  unfold gIsi at q
  split at q
  · rename_i x b
    obtain ⟨u, u', rfl, h, h'⟩ := tl2 p
    have e' := h'.ty
    subst e'
    split at q
    · rename_i kd hkd
      obtain ⟨hname, hnon⟩ := kind7_name hkd
      split at q
      · rename_i t ht
        cases q
        exact ⟨u, .ty b, _, _, _, rfl, .ty b, ty7_of W h ht, by rw [← hname]; exact kit_ty (isi7_ok t kd hnon), k _ N c H Ex.refl W (.bl _)⟩
      · split at q
        · rename_i n ns vs
          split at q
          · rename_i hn
            cases q
            obtain ⟨a, C, dx, fs, rfl, hc, ha, _, _⟩ := h.obj
            have cf := T.cf _ C hn hc
            exact ⟨_, .ty b, _, _, _, rfl, .ty b, .base (.ins ha cf.cl cf.ha cf.hn cf.htk cf.hm), by rw [← hname]; exact T.ob _ C kd hn hc hnon, k _ N c H Ex.refl W (.bl _)⟩
          · cases q
        · cases q
    · cases q
  · rename_i x m
    obtain ⟨u, u', rfl, h, h'⟩ := tl2 p
    obtain ⟨C', rfl, hc'⟩ := h'.cls
    split at q
    · rename_i hm
      split at q
      · rename_i t ht
        cases q
        exact ⟨u, .ref C', _, _, _, rfl, .own C', ty7_of W h ht, T.bo t m C' hm hc', k _ N c H Ex.refl W (.bl _)⟩
      · split at q
        · rename_i n ns vs
          split at q
          · rename_i hn
            cases q
            obtain ⟨a, C, dx, fs, rfl, hc, ha, _, _⟩ := h.obj
            have cf := T.cf _ C hn hc
            exact ⟨_, .ref C', _, _, _, rfl, .own C', .base (.ins ha cf.cl cf.ha cf.hn cf.htk cf.hm), T.oo _ m C C' hn hm hc hc', k _ N c H Ex.refl W (.bl _)⟩
          · cases q
        · cases q
    · cases q
  · cases q
section
variable {mg : Glob} {X : Cx} {e : Expr} {es : List Expr} {p pos : Pos} {f : SA} {cs : List Str}
theorem d_isi (T : Isi mg cs) (hm : X.mg "isinstance" = none) (ha : PA X (e :: es) (tAP mg f)) (hg : Gl X "isinstance" := by rfl) (he : starEach (e :: es) X.env = (false, eval e X.env) :: starEach es X.env := by rfl) (hpl : (backTo pos (starEach es X.env)).any (·.1) = false := by rfl) (hK : X.K = mg.K := by rfl) : PE X (.Call (.Name "isinstance" p) (e :: es) [] pos) (tE mg (eBi (gIsi cs) f)) :=
  d_bi (hK ▸ call_isi) (ok_isi T) back_E hg hm (by decide +kernel) ha (by decide) (by decide) he hpl
/-- a class of the program as a value -/
theorem d_cls {x : Str} {C : Addr} (hg : Gl X x) (hm : X.mg x = some (.ref C)) (hd : (x == ("__debug__" : Str)) = false := by decide) (hM : X.mg = mg.mg := by rfl) : PE X (.Name x pos) (tE mg (eC (.cls x))) :=
  d_glob hg hm (v := .ref C) rfl (fun _ _ _ => .cls (hM ▸ hm)) hd
end
end LW

/-! LwG: calls of defs, methods, classes, properties, fields. -/
namespace LW
open PySem L2 PyProof.Rows

/-- what a def reckons: by data and the cells -/
abbrev FM := List D → Sto → Option (D × Sto)
/-- the promise: the def hands back what g reckons, and changes nothing but cells -/
def spM (mg : Glob) (g : FM) (n : Nat) : Sp := fun vs H Q _ => vs.length = n ∧ ∃ (N : Prot) (c : List Addr) (ds : List D) (st : Sto) (d : D) (st' : Sto), Wd mg N c H st ∧ RepL mg N c H vs ds ∧ g ds st = some (d, st') ∧
  ∀ v N' c' H', Ex N c H N' c' H' → Wd mg N' c' H' st' → Rep mg N' c' H' v d → Q v H'
/-- only so many arguments -/
def Ar (n : Nat) (g : FM) : Prop := ∀ ds st r, g ds st = some r → ds.length = n
def eCall (g : FM) (dd : List D) (f : SA) : SE := fun env st => match f env st with
  | none => none
  | some (ds, s1) => g (ds ++ dd) s1
/-- defaults as data -/
def Dfl (mg : Glob) (dvs : List V) (dd : List D) : Prop := ∀ N c H, RepL mg N c H dvs dd
theorem dfl_nil {mg : Glob} : Dfl mg [] [] := fun _ _ _ => .nil
section
variable {mg : Glob} {X : Cx} {k : Nat} {f C : Addr} {fd : FuncData} {ps : List Str} {g : FM} {n : Nat} {dvs : List V} {ds : List Value} {dd : List D} {x m : Str} {p pos apos : Pos} {e o : Expr} {es : List Expr} {fs : SA} {fo : SE}
theorem r_call (ha : Ar n g) (hd : Dfl mg dvs dd) {t : TA} (ht : t = tA mg fs) {E : XK} {σ : L2.St} {H : Hp} {Q : VK} (h : tE mg (eCall g dd fs) σ H Q) : tCall (spM mg g n) dvs E t σ H Q := by
  subst ht
  obtain ⟨E0, N, c, env, st, d, st', R, q, kk⟩ := h
  unfold eCall at q
  split at q
  · cases q
  · rename_i ds s1 q1
    refine ⟨E0, N, c, env, st, ds, s1, R, q1, fun vs N1 c1 H1 x1 W1 r1 => ?_⟩
    have r2 := r1.append (hd N1 c1 H1)
    refine ⟨by rw [r2.length]; exact ha _ _ _ q, N1, c1, ds ++ dd, s1, d, st', W1, r2, q, fun v N2 c2 H2 x2 W2 r3 => ?_⟩
    exact kk v N2 c2 H2 (x1.trans x2 R.wd) W2 r3
/-- f(e, ..) -/
theorem d_call (F : FnOk X.prog X.w X.K X.mg X.base CX0 k f fd ps (spM mg g n)) (har : Ar n g) (hr : Room k X.A) (hm : X.mg x = some (.ref f)) (hk : PySem.W.keepIn X.K (.ref f) = true) (hb : Binds X.K fd ps ds) (hd : Vals dvs ds) (hdd : Dfl mg dvs dd) (ha : PA X (e :: es) (tA mg fs))
    (hg : Gl X x := by rfl) (hdb : (x == ("__debug__" : Str)) = false := by decide) (he : starEach (e :: es) X.env = (false, eval e X.env) :: starEach es X.env := by rfl) (hpl : (backTo pos (starEach es X.env)).any (·.1) = false := by rfl) :
    PE X (.Call (.Name x p) (e :: es) [] pos) (tE mg (eCall g dd fs)) :=
  pe_weak (pe_call (E := E0) F hr hg hm hk hb hd pass0 ha hdb he hpl) fun _ _ _ h => r_call har hdd rfl h
/-! ### methods -/
def eMeth (cn m : Str) (g : FM) (dd : List D) (fo : SE) (f : SA) : SE := fun env st => match fo env st with
  | some (.obj cn' ns vs, s1) => if cn' = cn ∧ ¬ m ∈ ns then (match f env s1 with
      | none => none
      | some (ds, s2) => g (.obj cn' ns vs :: (ds ++ dd)) s2) else none
  | _ => none
/-! ### properties, fields -/
def eProp (cn : Str) (g : FM) (fo : SE) : SE := fun env st => match fo env st with
  | some (.obj cn' ns vs, s1) => if cn' = cn then g [.obj cn' ns vs] s1 else none
  | _ => none
def fldD (m : Str) : List Str → List D → Option D
  | n :: ns, v :: vs => if m = n then some v else fldD m ns vs
  | _, _ => none
theorem fldD_ok {N : Prot} {c : List Addr} {H : Hp} {m : Str} : ∀ {fs : List (Str × V)} {ds : List D} {d : D}, RepL mg N c H (fs.map (·.2)) ds → fldD m (fs.map (·.1)) ds = some d → ∃ v, fs.lookup m = some v ∧ Rep mg N c H v d
  | [], _, _, _, e => by cases e
  | (a, b) :: r, [], _, h, _ => by cases h
  | (a, b) :: r, d0 :: ds, d, h, e => by
    cases h with
    | cons h t =>
      show ∃ v, List.lookup m ((a, b) :: r) = some v ∧ _
      rw [List.lookup_cons]
      by_cases q : m = a
      · subst q
        have e' : (if m = m then some d0 else fldD m (r.map (·.1)) ds) = some d := e
        rw [if_pos rfl] at e'
        cases e'
        exact ⟨b, by simp, h⟩
      · have e' : (if m = a then some d0 else fldD m (r.map (·.1)) ds) = some d := e
        rw [if_neg q] at e'
        rw [show (m == a) = false from beq_eq_false_iff_ne.mpr q]
        exact fldD_ok t e'
def eFld (cn m : Str) (fo : SE) : SE := fun env st => match fo env st with
  | some (.obj cn' ns vs, s1) => if cn' = cn then (match fldD m ns vs with
      | some d => some (d, s1)
      | none => none) else none
  | _ => none
theorem d_fld {cn : Str} (ho : PE X o (tP mg fo)) (hC : mg.mg cn = some (.ref C)) (c : Cls X.K C) (hn : NoAttr X.K C m) (hab : attributeBase o m X.env (eval o X.env) = eval o X.env := by rfl) : PE X (.Attribute o m pos) (tE mg (eFld cn m fo)) :=
  pe_weak (pe_fld ho hab) fun σ H Q h => by
    obtain ⟨E0, N, c0, env, st, d, st', R, q, kk⟩ := h
    unfold eFld at q
    split at q
    · rename_i cn' ns vs s1 q1
      split at q
      · rename_i hcn
        subst hcn
        split at q
        · rename_i d0 hf
          cases q
          refine ⟨E0, N, c0, env, st, _, _, R, q1, fun v N1 c1 H1 x1 W1 r1 => ?_⟩
          obtain ⟨a, C', dx, fs', rfl, hc, ha, hnn, rr⟩ := RepT.obj r1
          rw [hC] at hc
          cases hc
          subst hnn
          obtain ⟨v, hv, rv⟩ := fldD_ok rr hf
          exact ⟨a, C, dx, fs', v, rfl, ha, c, hn, hv, kk v N1 c1 H1 x1 W1 rv⟩
        · cases q
      · cases q
    · cases q
end

/-! ### a new instance -/
/-- what an __init__ reckons: the fields -/
abbrev FI := List D → Sto → Option ((List Str × List D) × Sto)
def ArI (n : Nat) (g : FI) : Prop := ∀ ds st r, g ds st = some r → ds.length = n
def spI (mg : Glob) (cn : Str) (g : FI) (n : Nat) : Sp := fun vs H Q _ => vs.length = n + 1 ∧ ∃ (N : Prot) (c : List Addr) (x dx C : Addr) (us : List V) (ds : List D) (st : Sto) (ns : List Str) (fds : List D) (st' : Sto),
  vs = .ref x :: us ∧ mg.mg cn = some (.ref C) ∧ H x = some (.ins C dx []) ∧ N x ∧ x ∉ c ∧ Wd mg N c H st ∧ RepL mg N c H us ds ∧ g ds st = some ((ns, fds), st') ∧
  ∀ N' c' H' dx' fs, (∀ a o, H a = some o → a ∉ c → a ≠ x → H' a = some o) → (∀ a, N' a → N a ∨ H a = none) → (∀ a, N a → N' a) → (∀ (k : Nat) a, c[k]? = some a → c'[k]? = some a) → (∀ a, a ∈ c' → a ∈ c ∨ H a = none) →
    Wd mg N' c' H' st' → H' x = some (.ins C dx' fs) → fs.map (·.1) = ns → RepL mg N' c' H' (fs.map (·.2)) fds → Q .non H'
def eMake (cn : Str) (g : FI) (dd : List D) (f : SA) : SE := fun env st => match f env st with
  | none => none
  | some (ds, s1) => match g (ds ++ dd) s1 with
    | none => none
    | some ((ns, fds), s2) => some (.obj cn ns fds, s2)
section
variable {mg : Glob} {X : Cx} {k : Nat} {f C : Addr} {fd : FuncData} {ps : List Str} {g : FI} {n : Nat} {dvs : List V} {ds : List Value} {dd : List D} {x m : Str} {p pos apos : Pos} {e o : Expr} {es : List Expr} {fs : SA} {fo : SE}
theorem r_make {cn : Str} (hC : mg.mg cn = some (.ref C)) (har : ArI n g) (hd : Dfl mg dvs dd) {E : XK} {σ : L2.St} {H : Hp} {Q : VK} (h : tE mg (eMake cn g dd fs) σ H Q) : tMake C (spI mg cn g n) dvs E (tA mg fs) σ H Q := by
  obtain ⟨E0, N, c, env, st, d, st', R, q, kk⟩ := h
  unfold eMake at q
  split at q
  · cases q
  · rename_i ds s1 q1
    split at q
    · cases q
    · rename_i ns fds s2 q2
      cases q
      refine ⟨E0, N, c, env, st, ds, s1, R, q1, fun vs N1 c1 H1 x1 W1 r1 => fun z dz hz hdz hne => ?_⟩
      have r2 := r1.append (hd N1 c1 H1)
      -- the own dict is laid, then the instance, protected
      have xa := Ex.laid (o := .own z) W1 hdz
      have Wa := W1.laid (o := .own z) hdz
      have hz' : (upd H1 dz (.own z)) z = none := by rw [upd_ne (Ne.symm hne)]; exact hz
      have xb := Ex.laidN (o := .ins C dz []) Wa hz'
      have Wb := Wa.laidN (o := .ins C dz []) hz'
      have xab := xa.trans xb W1
      have r3 := r2.tr (xab.tr W1)
      refine ⟨by show (vs ++ dvs).length + 1 = n + 1; rw [r2.length, har _ _ _ q2], _, c1, z, dz, C, vs ++ dvs, ds ++ dd, s1, ns, fds, _, rfl, hC, upd_same, .inr rfl, Wa.cnone hz', Wb, r3, q2, ?_⟩
      intro N' c' H' dx' fs' h1 h2 h3 h4 h5 W' h6 h7 r4
      refine ⟨rfl, ?_⟩
      have nz : z ∉ c' := fun q => (h5 z q).elim (Wa.cnone hz') fun e => by rw [upd_same] at e; cases e
      have less : ∀ a, (N' a ∧ a ≠ z) → N' a := fun a q => q.1
      have free1 : ∀ a, (upd (upd H1 dz (.own z)) z (.ins C dz [])) a = none → H1 a = none := fun a e => by
        by_cases q1 : a = z
        · rw [q1]; exact hz
        · rw [upd_ne q1] at e
          by_cases q2 : a = dz
          · rw [q2]; exact hdz
          · rw [upd_ne q2] at e; exact e
      have xx : Ex N1 c1 H1 (fun a => N' a ∧ a ≠ z) c' H' := by
        refine ⟨fun a o e nc => ?_, fun a q => ?_, fun a q => ?_, h4, fun a q => ?_⟩
        · have n1 : a ≠ z := ne_of_none e hz
          have n2 : a ≠ dz := ne_of_none e hdz
          exact h1 a o (by rw [upd_ne n1, upd_ne n2]; exact e) nc n1
        · rcases h2 a q.1 with (z1 | z1) | z1
          · exact .inl z1
          · exact absurd z1 q.2
          · exact .inr (free1 a z1)
        · exact ⟨h3 a (.inl q), fun e => W1.trk a q (by rw [e]; exact hz)⟩
        · exact (h5 a q).elim .inl fun e => .inr (free1 a e)
      have W2 : Wd mg (fun a => N' a ∧ a ≠ z) c' H' _ := W'.less less fun a q => ⟨W'.cn a q, fun e => nz (e ▸ q)⟩
      exact kk _ _ _ _ (x1.trans xx R.wd) W2 (.obj hC h6 (fun q => q.2 rfl) h7 (r4.tr (Tr.less less)))
theorem d_make (M : Mk X.K C f) (F : FnOk X.prog X.w X.K X.mg X.base CX0 k f fd ps (spI mg x g n)) (har : ArI n g) (hr : Room (k + 1) X.A) (hm : X.mg x = some (.ref C)) (hb : Binds X.K fd ps ds) (hd : Vals dvs ds) (hdd : Dfl mg dvs dd) (ha : PA X (e :: es) (tA mg fs))
    (hM : X.mg = mg.mg := by rfl) (hg : Gl X x := by rfl) (hdb : (x == ("__debug__" : Str)) = false := by decide) (he : starEach (e :: es) X.env = (false, eval e X.env) :: starEach es X.env := by rfl) (hpl : (backTo pos (starEach es X.env)).any (·.1) = false := by rfl) :
    PE X (.Call (.Name x p) (e :: es) [] pos) (tE mg (eMake x g dd fs)) :=
  pe_weak (pe_make (E := E0) M F hr hg hm hb hd pass0 ha hdb he hpl) fun _ _ _ h => r_make (hM ▸ hm) har hdd h
end
end LW

/-! LwH: statements. -/
namespace LW
open PySem L2 PyProof.Rows

inductive Out where
  | nx (e : Env) | rt (d : D) | bk (e : Env) | ct (e : Env)
abbrev SS := Env → Sto → Option (Out × Sto)
/-- a step of a statement: what is not protected stays -/
structure Sx (N : Prot) (c : List Addr) (H : Hp) (N' : Prot) (c' : List Addr) (H' : Hp) : Prop where
  keep : ∀ a o, H a = some o → ¬ N a → H' a = some o
  new : ∀ a, N' a → N a ∨ H a = none
  pre : ∀ (k : Nat) a, c[k]? = some a → c'[k]? = some a
  newc : ∀ a, a ∈ c' → a ∈ c ∨ H a = none
  trk : ∀ a, H' a = none → H a = none
  tup : ∀ a vs, H a = some (.tup vs) → H' a = some (.tup vs)
/-- the end of a def: seen from its entry -/
structure Fin (mg : Glob) (E : En) (c' : List Addr) (st' : Sto) (H' : Hp) (v : V) (d : D) : Prop where
  wd : Wd mg (fun a => E.N0 a ∨ a ∈ c') c' H' st'
  rep : Rep mg (fun a => E.N0 a ∨ a ∈ c') c' H' v d
  base : ∀ a o, E.H0 a = some o → a ∉ c' → H' a = some o
  pre : ∀ (k : Nat) a, E.c0[k]? = some a → c'[k]? = some a
  newc : ∀ a, a ∈ c' → a ∈ E.c0 ∨ E.H0 a = none
def tS (mg : Glob) (f : SS) : TS := fun De σ H => ∃ (E : En) (N : Prot) (c : List Addr) (env : Env) (st : Sto) (o : Out) (st' : Sto), Rel mg E N c env st σ H ∧ f env st = some (o, st') ∧
  match o with
  | .nx env' => ∀ N' c' σ' H', Sx N c H N' c' H' → Rel mg E N' c' env' st' σ' H' → De.nx σ' H'
  | .bk env' => ∀ N' c' σ' H', Sx N c H N' c' H' → Rel mg E N' c' env' st' σ' H' → De.bk σ' H'
  | .ct env' => ∀ N' c' σ' H', Sx N c H N' c' H' → Rel mg E N' c' env' st' σ' H' → De.ct σ' H'
  | .rt d => ∀ c' H' v, Fin mg E c' st' H' v d → De.rt v H'
section
variable {mg : Glob} {N N' N'' : Prot} {c c' c'' : List Addr} {H H' H'' : Hp} {st st' : Sto} {E : En} {env : Env} {σ : L2.St}
theorem Sx.refl : Sx N c H N c H := ⟨fun _ _ h _ => h, fun _ h => .inl h, fun _ _ h => h, fun _ h => .inl h, fun _ h => h, fun _ _ h => h⟩
theorem Ex.sx (x : Ex N c H N' c' H') (W : Wd mg N c H st) (W' : Wd mg N' c' H' st') : Sx N c H N' c' H' := ⟨fun a o h n => x.keep a o h fun z => n (W.cn a z), x.new, x.pre, x.newc, fun a h => x.free W W' h, fun a vs h => x.keep a _ h (W.ntup h)⟩
theorem Sx.nn (x : Sx N c H N' c' H') {a : Addr} {o : HO} (h : H a = some o) (n : ¬ N a) : ¬ N' a := fun z => (x.new a z).elim n fun e => by rw [h] at e; cases e
theorem Sx.trans (x : Sx N c H N' c' H') (y : Sx N' c' H' N'' c'' H'') : Sx N c H N'' c'' H'' where
  keep := fun a o h n => y.keep a o (x.keep a o h n) (x.nn h n)
  new := fun a z => (y.new a z).elim (x.new a) fun e => .inr (x.trk a e)
  pre := fun k a h => y.pre k a (x.pre k a h)
  newc := fun a z => (y.newc a z).elim (x.newc a) fun e => .inr (x.trk a e)
  trk := fun a h => x.trk a (y.trk a h)
  tup := fun a vs h => y.tup a vs (x.tup a vs h)
theorem Sx.tr (x : Sx N c H N' c' H') : Tr N c H N' c' H' := ⟨x.keep, x.new, x.pre, x.tup⟩
/-- the end of a def, from data of the frame -/
theorem Rel.fin {v : V} {d : D} (R : Rel mg E N c env st σ H) (r : Rep mg N c H v d) : Fin mg E c st H v d := by
  have less : ∀ a, (E.N0 a ∨ a ∈ c) → N a := fun a z => z.elim (R.n0 a) (R.wd.cn a)
  exact ⟨R.wd.less less fun a z => .inr z, r.tr (Tr.less less), R.base, R.pre, R.newc⟩
end

/-! ### setting a slot -/
section
variable {mg : Glob} {N N' : Prot} {c c' : List Addr} {H H' : Hp} {st st' : Sto} {E : En} {env : Env} {σ : L2.St}
theorem get_set {α : Type} {l : List α} {i j : Nat} {x y : α} (h : (l.set i x)[j]? = some y) : (i = j ∧ y = x) ∨ (i ≠ j ∧ l[j]? = some y) := by
  by_cases e : i = j
  · subst e
    by_cases hl : i < l.length
    · rw [List.getElem?_set_self hl] at h
      cases h
      exact .inl ⟨rfl, rfl⟩
    · rw [List.getElem?_eq_none (by simpa using hl)] at h
      cases h
  · rw [List.getElem?_set_ne e] at h
    exact .inr ⟨e, h⟩
/-- a slot gets a new content that is not the frame's own -/
theorem Rel.set {i : Nat} {s : Sl} {v : V} (R : Rel mg E N c env st σ H) (hs : s.isOwn = false) (h : SlR mg N c H s (some v)) : Rel mg E N c (env.set i s) st (σ.set i (some v)) H where
  len := by rw [List.length_set, List.length_set]; exact R.len
  sl := fun j s' e => by
    rcases get_set e with ⟨rfl, rfl⟩ | ⟨ne, e⟩
    · have hl : i < σ.length := by
        rw [R.len]
        have := (List.getElem?_eq_some_iff.mp e).1
        simpa using this
      rw [List.getElem?_set_self hl]
      exact h
    · rw [List.getElem?_set_ne ne]
      exact R.sl j s' e
  own := fun j s' a e ho es => by
    rcases get_set e with ⟨rfl, rfl⟩ | ⟨ne, e⟩
    · rw [hs] at ho; cases ho
    · rw [List.getElem?_set_ne ne] at es
      exact R.own j s' a e ho es
  inj := fun j k s1 s2 a e1 o1 e2 o2 h1 h2 => by
    rcases get_set e1 with ⟨rfl, rfl⟩ | ⟨n1, e1⟩
    · rw [hs] at o1; cases o1
    · rcases get_set e2 with ⟨rfl, rfl⟩ | ⟨n2, e2⟩
      · rw [hs] at o2; cases o2
      · rw [List.getElem?_set_ne n1] at h1
        rw [List.getElem?_set_ne n2] at h2
        exact R.inj j k s1 s2 a e1 o1 e2 o2 h1 h2
  wd := R.wd
  n0 := R.n0
  t0 := R.t0
  base := R.base
  pre := R.pre
  newc := R.newc
  slf := fun j cn ns ds a e es => by
    rcases get_set e with ⟨rfl, rfl⟩ | ⟨ne, e⟩
    · cases hs
    · rw [List.getElem?_set_ne ne] at es
      exact R.slf j cn ns ds a e es
/-- a slot gets a list of the frame's own: a new one, protected -/
theorem Rel.setOwn {i : Nat} {p : Addr} {vs : List V} {xs : List D} (R : Rel mg E N c env st σ H) (hp : H p = some (.lst vs)) (np : N p) (nc : p ∉ c) (h0 : E.H0 p = none) (r : RepL mg N c H vs xs)
    (nw : ∀ (j : Nat) s, env[j]? = some s → s.isOwn = true → σ[j]? ≠ some (some (.ref p))) : Rel mg E N c (env.set i (.own xs)) st (σ.set i (some (.ref p))) H where
  len := by rw [List.length_set, List.length_set]; exact R.len
  sl := fun j s' e => by
    rcases get_set e with ⟨rfl, rfl⟩ | ⟨ne, e⟩
    · have hl : i < σ.length := by
        rw [R.len]
        have := (List.getElem?_eq_some_iff.mp e).1
        simpa using this
      rw [List.getElem?_set_self hl]
      exact ⟨p, vs, rfl, hp, r⟩
    · rw [List.getElem?_set_ne ne]
      exact R.sl j s' e
  own := fun j s' a e ho es => by
    rcases get_set e with ⟨rfl, rfl⟩ | ⟨ne, e⟩
    · have hl : i < σ.length := by
        rw [R.len]
        have := (List.getElem?_eq_some_iff.mp e).1
        simpa using this
      rw [List.getElem?_set_self hl] at es
      cases es
      exact ⟨np, nc, h0⟩
    · rw [List.getElem?_set_ne ne] at es
      exact R.own j s' a e ho es
  inj := fun j k s1 s2 a e1 o1 e2 o2 h1 h2 => by
    have hl : ∀ {s : Sl}, (env.set i (.own xs))[i]? = some s → i < σ.length := fun {s} e => by
      rw [R.len]
      have := (List.getElem?_eq_some_iff.mp e).1
      simpa using this
    rcases get_set e1 with ⟨rfl, rfl⟩ | ⟨n1, e1'⟩
    · rcases get_set e2 with ⟨rfl, rfl⟩ | ⟨n2, e2'⟩
      · rfl
      · rw [List.getElem?_set_self (hl e1)] at h1
        cases h1
        rw [List.getElem?_set_ne n2] at h2
        exact absurd h2 (nw k s2 e2' o2)
    · rcases get_set e2 with ⟨rfl, rfl⟩ | ⟨n2, e2'⟩
      · rw [List.getElem?_set_self (hl e2)] at h2
        cases h2
        rw [List.getElem?_set_ne n1] at h1
        exact absurd h1 (nw j s1 e1' o1)
      · rw [List.getElem?_set_ne n1] at h1
        rw [List.getElem?_set_ne n2] at h2
        exact R.inj j k s1 s2 a e1' o1 e2' o2 h1 h2
  wd := R.wd
  n0 := R.n0
  t0 := R.t0
  base := R.base
  pre := R.pre
  newc := R.newc
  slf := fun j cn ns ds a e es => by
    rcases get_set e with ⟨rfl, e2⟩ | ⟨ne, e⟩
    · cases e2
    · rw [List.getElem?_set_ne ne] at es
      exact R.slf j cn ns ds a e es
/-- an address that was new ahead of a step is new at the entry, and no slot's own -/
theorem Rel.fresh0 (R : Rel mg E N c env st σ H) {p : Addr} (h : H p = none) : E.H0 p = none := by
  cases q : E.H0 p with
  | none => rfl
  | some o =>
    have : p ∉ c := R.wd.cnone h
    rw [R.base p o q this] at h; cases h
theorem Rel.notOwn (R : Rel mg E N c env st σ H) {p : Addr} (h : H p = none) : ∀ (j : Nat) s, env[j]? = some s → s.isOwn = true → σ[j]? ≠ some (some (.ref p)) := fun j s e ho z => by
  obtain ⟨n, _⟩ := R.own j s p e ho z
  exact R.wd.trk p n h
theorem Rel.ownNT (R : Rel mg E N c env st σ H) {i : Nat} {s : Sl} {a : Addr} (he : env[i]? = some s) (ho : s.isOwn = true) (hs : σ[i]? = some (some (.ref a))) : ∀ us, H a ≠ some (.tup us) := fun us e => by
  have q := R.sl i s he
  rw [hs] at q
  cases s with
  | un => cases ho
  | val d => cases ho
  | own xs => obtain ⟨b, vs, ev, hb, _⟩ := q; cases ev; rw [e] at hb; cases hb
  | ownI cn ns ds => obtain ⟨b, C, dx, fs, ev, hc, hb, _⟩ := q; cases ev; rw [e] at hb; cases hb
  | ownD ks ds => obtain ⟨b, kvs, ev, hb, _⟩ := q; cases ev; rw [e] at hb; cases hb
  | ownT ks ds => obtain ⟨b, kvs, ev, hb, _⟩ := q; cases ev; rw [e] at hb; cases hb
/-- a list of the frame's own changes -/
theorem Rel.write {i : Nat} {a : Addr} {vs vs' : List V} {xs xs' : List D} (R : Rel mg E N c env st σ H) (he : env[i]? = some (.own xs)) (hs : σ[i]? = some (some (.ref a))) (r : RepL mg N c H vs' xs') :
    Rel mg E N c (env.set i (.own xs')) st σ (upd H a (.lst vs')) ∧ Sx N c H N c (upd H a (.lst vs')) := by
  obtain ⟨na, nc, n0⟩ := R.own i _ a he rfl hs
  obtain ⟨b, us, eb, hb, rb⟩ := R.sl i _ he
  rw [hs] at eb
  cases eb
  have keep : ∀ b o, H b = some o → ¬ N b → (upd H a (.lst vs')) b = some o := fun b o e n => by
    rw [upd_ne (show b ≠ a from fun z => n (z ▸ na))]; exact e
  have tk : ∀ b, (upd H a (.lst vs')) b = none → H b = none := fun b e => by
    by_cases q : b = a
    · rw [q, upd_same] at e; cases e
    · rw [upd_ne q] at e; exact e
  have sx : Sx N c H N c (upd H a (.lst vs')) := ⟨keep, fun _ z => .inl z, fun _ _ z => z, fun _ z => .inl z, tk, fun b us e => by rw [upd_ne (fun z => R.ownNT he rfl hs us (by rw [← z]; exact e))]; exact e⟩
  have il : i < σ.length := (List.getElem?_eq_some_iff.mp hs).1
  have ne_of_own : ∀ (j : Nat) s b, i ≠ j → env[j]? = some s → s.isOwn = true → σ[j]? = some (some (.ref b)) → b ≠ a := fun j s b ne e ho z q => by
    subst q
    exact ne (R.inj i j _ s b he rfl e ho hs z)
  refine ⟨⟨by rw [List.length_set]; exact R.len, fun j s' e => ?_, fun j s' b e ho es => ?_, fun j k s1 s2 b e1 o1 e2 o2 h1 h2 => ?_, ?_, R.n0, R.t0, fun b o e n => ?_, R.pre, R.newc, fun j cn ns ds b e es => (get_set e).elim (fun z => nomatch z.2) fun z => R.slf j cn ns ds b z.2 es⟩, sx⟩
  · rcases get_set e with ⟨rfl, rfl⟩ | ⟨ne, e⟩
    · rw [hs]
      exact ⟨a, vs', rfl, upd_same, r.tr sx.tr⟩
    · have q := R.sl j s' e
      cases s' with
      | un => trivial
      | val d => obtain ⟨v, ev, rv⟩ := q; exact ⟨v, ev, rv.tr sx.tr⟩
      | own ys => obtain ⟨b, us', ev, hb', rv⟩ := q; exact ⟨b, us', ev, by rw [upd_ne (ne_of_own j _ b ne e rfl (join_some ev))]; exact hb', rv.tr sx.tr⟩
      | ownI cn ns ds => obtain ⟨b, C, dx, fs, ev, hc, hb', hn, rv⟩ := q; exact ⟨b, C, dx, fs, ev, hc, by rw [upd_ne (ne_of_own j _ b ne e rfl (join_some ev))]; exact hb', hn, rv.tr sx.tr⟩
      | ownD ks ds => obtain ⟨b, kvs, ev, hb', hn, rv⟩ := q; exact ⟨b, kvs, ev, by rw [upd_ne (ne_of_own j _ b ne e rfl (join_some ev))]; exact hb', hn, rv.tr sx.tr⟩
      | ownT ks ds => obtain ⟨b, kvs, ev, hb', hn, rv⟩ := q; exact ⟨b, kvs, ev, by rw [upd_ne (ne_of_own j _ b ne e rfl (join_some ev))]; exact hb', hn, rv.tr sx.tr⟩
  · rcases get_set e with ⟨rfl, rfl⟩ | ⟨ne, e⟩
    · rw [hs] at es; cases es; exact ⟨na, nc, n0⟩
    · exact R.own j s' b e ho es
  · rcases get_set e1 with ⟨rfl, rfl⟩ | ⟨n1, e1⟩
    · rcases get_set e2 with ⟨rfl, rfl⟩ | ⟨n2, e2⟩
      · rfl
      · exact R.inj _ k _ s2 b he rfl e2 o2 h1 h2
    · rcases get_set e2 with ⟨rfl, rfl⟩ | ⟨n2, e2⟩
      · exact R.inj j _ s1 _ b e1 o1 he rfl h1 h2
      · exact R.inj j k s1 s2 b e1 o1 e2 o2 h1 h2
  · exact ⟨R.wd.len, fun k b ys h1 h2 => by
      obtain ⟨us', hb', rr⟩ := R.wd.sto k b ys h1 h2
      exact ⟨us', by rw [upd_ne (show b ≠ a from fun z => nc (z ▸ List.mem_of_getElem? h1))]; exact hb', rr.tr sx.tr⟩, R.wd.cn, R.wd.nd, fun b z e => R.wd.trk b z (tk b e)⟩
  · have : b ≠ a := fun z => by rw [z, n0] at e; cases e
    rw [upd_ne this]
    exact R.base b o e n
/-- a list of the frame's own is data from now on -/
def frz (i : Nat) (env : Env) : Env := match env[i]? with
  | some (.own xs) => env.set i (.val (.lst xs))
  | some (.ownD ks xs) => env.set i (.val (.dic ks xs))
  | _ => env
theorem Rel.frz {i : Nat} (R : Rel mg E N c env st σ H) : ∃ N', Rel mg E N' c (LW.frz i env) st σ H ∧ Sx N c H N' c H := by
  unfold LW.frz
  split
  · rename_i xs he
    obtain ⟨a, vs, es, ha, r⟩ := R.sl i _ he
    have es := join_some es
    obtain ⟨na, nc, n0⟩ := R.own i _ a he rfl es
    have less : ∀ b, (N b ∧ b ≠ a) → N b := fun b z => z.1
    have tr : Tr N c H (fun b => N b ∧ b ≠ a) c H := Tr.less less
    have il : i < env.length := (List.getElem?_eq_some_iff.mp he).1
    refine ⟨fun b => N b ∧ b ≠ a, ⟨by rw [List.length_set]; exact R.len, fun j s' e => ?_, fun j s' b e ho z => ?_, fun j k s1 s2 b e1 o1 e2 o2 h1 h2 => ?_, R.wd.less less fun b z => ⟨R.wd.cn b z, fun q => nc (q ▸ z)⟩, fun b z => ⟨R.n0 b z, fun q => R.t0 b z (by rw [q]; exact n0)⟩, R.t0, R.base, R.pre, R.newc, fun j cn ns ds b e z => (get_set e).elim (fun q => nomatch q.2) fun q => R.slf j cn ns ds b q.2 z⟩, ⟨fun _ _ e _ => e, fun b z => .inl z.1, fun _ _ z => z, fun _ z => .inl z, fun _ z => z, fun _ _ z => z⟩⟩
    · rcases get_set e with ⟨rfl, rfl⟩ | ⟨ne, e⟩
      · rw [es]
        exact ⟨.ref a, rfl, .lst ha (fun z => z.2 rfl) (r.tr tr)⟩
      · have q := R.sl j s' e
        cases s' with
        | un => trivial
        | val d => obtain ⟨v, ev, rv⟩ := q; exact ⟨v, ev, rv.tr tr⟩
        | own ys => obtain ⟨b, us', ev, hb', rv⟩ := q; exact ⟨b, us', ev, hb', rv.tr tr⟩
        | ownI cn ns ds => obtain ⟨b, C, dx, fs, ev, hc, hb', hn, rv⟩ := q; exact ⟨b, C, dx, fs, ev, hc, hb', hn, rv.tr tr⟩
        | ownD ks ds => obtain ⟨b, kvs, ev, hb', hn, rv⟩ := q; exact ⟨b, kvs, ev, hb', hn, rv.tr tr⟩
        | ownT ks ds => obtain ⟨b, kvs, ev, hb', hn, rv⟩ := q; exact ⟨b, kvs, ev, hb', hn, rv.tr tr⟩
    · rcases get_set e with ⟨rfl, rfl⟩ | ⟨ne, e⟩
      · cases ho
      · obtain ⟨z1, z2, z3⟩ := R.own j s' b e ho z
        refine ⟨⟨z1, fun q => ?_⟩, z2, z3⟩
        subst q
        exact ne (R.inj i j _ s' b he rfl e ho es z)
    · rcases get_set e1 with ⟨rfl, rfl⟩ | ⟨n1, e1⟩
      · cases o1
      · rcases get_set e2 with ⟨rfl, rfl⟩ | ⟨n2, e2⟩
        · cases o2
        · exact R.inj j k s1 s2 b e1 o1 e2 o2 h1 h2
  · rename_i ks xs he
    obtain ⟨a, kvs, es, ha, hm, r⟩ := R.sl i _ he
    have es := join_some es
    obtain ⟨na, nc, n0⟩ := R.own i _ a he rfl es
    have less : ∀ b, (N b ∧ b ≠ a) → N b := fun b z => z.1
    have tr : Tr N c H (fun b => N b ∧ b ≠ a) c H := Tr.less less
    have il : i < env.length := (List.getElem?_eq_some_iff.mp he).1
    refine ⟨fun b => N b ∧ b ≠ a, ⟨by rw [List.length_set]; exact R.len, fun j s' e => ?_, fun j s' b e ho z => ?_, fun j k s1 s2 b e1 o1 e2 o2 h1 h2 => ?_, R.wd.less less fun b z => ⟨R.wd.cn b z, fun q => nc (q ▸ z)⟩, fun b z => ⟨R.n0 b z, fun q => R.t0 b z (by rw [q]; exact n0)⟩, R.t0, R.base, R.pre, R.newc, fun j cn ns ds b e z => (get_set e).elim (fun q => nomatch q.2) fun q => R.slf j cn ns ds b q.2 z⟩, ⟨fun _ _ e _ => e, fun b z => .inl z.1, fun _ _ z => z, fun _ z => .inl z, fun _ z => z, fun _ _ z => z⟩⟩
    · rcases get_set e with ⟨rfl, rfl⟩ | ⟨ne, e⟩
      · rw [es]
        exact ⟨.ref a, rfl, .dic ha (fun z => z.2 rfl) hm (r.tr tr)⟩
      · have q := R.sl j s' e
        cases s' with
        | un => trivial
        | val d => obtain ⟨v, ev, rv⟩ := q; exact ⟨v, ev, rv.tr tr⟩
        | own ys => obtain ⟨b, us', ev, hb', rv⟩ := q; exact ⟨b, us', ev, hb', rv.tr tr⟩
        | ownI cn ns ds => obtain ⟨b, C, dx, fs, ev, hc, hb', hn, rv⟩ := q; exact ⟨b, C, dx, fs, ev, hc, hb', hn, rv.tr tr⟩
        | ownD ks ds => obtain ⟨b, kvs, ev, hb', hn, rv⟩ := q; exact ⟨b, kvs, ev, hb', hn, rv.tr tr⟩
        | ownT ks ds => obtain ⟨b, kvs, ev, hb', hn, rv⟩ := q; exact ⟨b, kvs, ev, hb', hn, rv.tr tr⟩
    · rcases get_set e with ⟨rfl, rfl⟩ | ⟨ne, e⟩
      · cases ho
      · obtain ⟨z1, z2, z3⟩ := R.own j s' b e ho z
        refine ⟨⟨z1, fun q => ?_⟩, z2, z3⟩
        subst q
        exact ne (R.inj i j _ s' b he rfl e ho es z)
    · rcases get_set e1 with ⟨rfl, rfl⟩ | ⟨n1, e1⟩
      · cases o1
      · rcases get_set e2 with ⟨rfl, rfl⟩ | ⟨n2, e2⟩
        · cases o2
        · exact R.inj j k s1 s2 b e1 o1 e2 o2 h1 h2
  · exact ⟨N, R, Sx.refl⟩
end
end LW

/-! LwI: statements by plain functions. -/
namespace LW
open PySem L2 PyProof.Rows

def PostS (mg : Glob) (E : En) (N : Prot) (c : List Addr) (H : Hp) (De : Ends) (o : Out) (st' : Sto) : Prop := match o with
  | .nx env' => ∀ N' c' σ' H', Sx N c H N' c' H' → Rel mg E N' c' env' st' σ' H' → De.nx σ' H'
  | .bk env' => ∀ N' c' σ' H', Sx N c H N' c' H' → Rel mg E N' c' env' st' σ' H' → De.bk σ' H'
  | .ct env' => ∀ N' c' σ' H', Sx N c H N' c' H' → Rel mg E N' c' env' st' σ' H' → De.ct σ' H'
  | .rt d => ∀ c' H' v, Fin mg E c' st' H' v d → De.rt v H'
theorem tS_def {mg : Glob} {f : SS} {De : Ends} {σ : L2.St} {H : Hp} : tS mg f De σ H ↔ ∃ (E : En) (N : Prot) (c : List Addr) (env : Env) (st : Sto) (o : Out) (st' : Sto), Rel mg E N c env st σ H ∧ f env st = some (o, st') ∧ PostS mg E N c H De o st' := Iff.rfl
section
variable {mg : Glob} {E : En} {N N' : Prot} {c c' : List Addr} {H H' : Hp} {De : Ends} {o : Out} {st st' : Sto} {env env' : Env} {σ : L2.St}
theorem PostS.from (x : Sx N c H N' c' H') (p : PostS mg E N c H De o st') : PostS mg E N' c' H' De o st' := by
  cases o with
  | nx e => exact fun N2 c2 σ2 H2 x2 R2 => p N2 c2 σ2 H2 (x.trans x2) R2
  | bk e => exact fun N2 c2 σ2 H2 x2 R2 => p N2 c2 σ2 H2 (x.trans x2) R2
  | ct e => exact fun N2 c2 σ2 H2 x2 R2 => p N2 c2 σ2 H2 (x.trans x2) R2
  | rt d => exact p
end
def sNil : SS := fun env st => some (.nx env, st)
def sSeq (f g : SS) : SS := fun env st => match f env st with
  | some (.nx e, s1) => g e s1
  | some (.rt d, s1) => some (.rt d, s1)
  | some (.bk e, s1) => some (.bk e, s1)
  | some (.ct e, s1) => some (.ct e, s1)
  | none => none
def sRet (f : SE) : SS := fun env st => match f env st with
  | some (d, s1) => some (.rt d, s1)
  | none => none
def sDrop (f : SE) : SS := fun env st => match f env st with
  | some (_, s1) => some (.nx env, s1)
  | none => none
def sSet (i : Nat) (f : SE) : SS := fun env st => match f env st with
  | some (d, s1) => some (.nx (env.set i (.val d)), s1)
  | none => none
def sOwn (i : Nat) (f : Fx (List D)) : SS := fun env st => match f env st with
  | some (xs, s1) => some (.nx (env.set i (.own xs)), s1)
  | none => none
def sIf (t : SB) (f g : SS) : SS := fun env st => match t env st with
  | some (true, s1) => f env s1
  | some (false, s1) => g env s1
  | none => none
/-- ahead of the rest a list of the frame's own becomes data -/
def sFrz (i : Nat) (f : SS) : SS := fun env st => f (frz i env) st
section
variable {mg : Glob} {X : Cx} {s : Stmt} {rest : List Stmt} {e : Expr} {pos : Pos} {f g : SS} {fe : SE} {fl : Fx (List D)} {t : SB}
theorem s_nil : PSs X [] (tS mg sNil) := pss_weak pss_nil fun De σ H h => by
  obtain ⟨E, N, c, env, st, o, st', R, q, p⟩ := tS_def.mp h
  cases q
  exact p N c σ H Sx.refl R
theorem s_cons (h1 : PS X s (tS mg f)) (h2 : PSs X rest (tS mg g)) : PSs X (s :: rest) (tS mg (sSeq f g)) := pss_weak (pss_cons h1 h2) fun De σ H h => by
  obtain ⟨E, N, c, env, st, o, st', R, q, p⟩ := tS_def.mp h
  unfold sSeq at q
  split at q
  · rename_i e1 s1 q1
    refine tS_def.mpr ⟨E, N, c, env, st, .nx e1, s1, R, q1, fun N1 c1 σ1 H1 x1 R1 => ?_⟩
    exact tS_def.mpr ⟨E, N1, c1, e1, s1, o, st', R1, q, p.from x1⟩
  · rename_i d s1 q1
    cases q
    exact tS_def.mpr ⟨E, N, c, env, st, _, _, R, q1, p⟩
  · rename_i d s1 q1
    cases q
    exact tS_def.mpr ⟨E, N, c, env, st, _, _, R, q1, p⟩
  · rename_i d s1 q1
    cases q
    exact tS_def.mpr ⟨E, N, c, env, st, _, _, R, q1, p⟩
  · cases q
theorem s_one (h1 : PS X s (tS mg f)) : PSs X [s] (tS mg f) := pss_one h1
/-- code that is never come to: none -/
def sNever : SS := fun _ _ => none
theorem s_never : PS X s (tS mg sNever) := ps_weak ps_never fun De σ H h => by
  obtain ⟨E, N, c, env, st, o, st', R, q, p⟩ := tS_def.mp h
  cases q
theorem s_ret (he : PE X e (tE mg fe)) : PS X (.Return (some e) pos) (tS mg (sRet fe)) := ps_weak (ps_ret he) fun De σ H h => by
  obtain ⟨E, N, c, env, st, o, st', R, q, p⟩ := tS_def.mp h
  unfold sRet at q
  split at q
  · rename_i d s1 q1
    cases q
    exact ⟨E, N, c, env, st, _, _, R, q1, fun v N' c' H' x W r => p c' H' v ((R.ex x W).fin r)⟩
  · cases q
theorem s_drop (he : PE X e (tP mg fe)) (hs : swapsWith e none pos.line X.env = pure false := by rfl) : PS X (.Expr e pos) (tS mg (sDrop fe)) := ps_weak (ps_expr he hs) fun De σ H h => by
  obtain ⟨E, N, c, env, st, o, st', R, q, p⟩ := tS_def.mp h
  unfold sDrop at q
  split at q
  · rename_i d s1 q1
    cases q
    exact ⟨E, N, c, env, st, _, _, R, q1, fun v N' c' H' x W r => p N' c' σ H' (x.sx R.wd W) (R.ex x W)⟩
  · cases q
theorem s_set {i : Nat} {x : Str} {pos' : Pos} (hN : X.N.Nodup) (he : PE X e (tE mg fe)) (hi : X.N[i]? = some x := by rfl) (hx : Loc X.env.scope x := by first | exact Or.inl rfl | exact Or.inr rfl) (hs : swapsWith e (some (.Name x pos')) pos.line X.env = pure false := by rfl) (hf : X.fn x = true ∨ X.env.scope.names.lookup x = some .local := by first | exact .inl rfl | exact .inr rfl) :
    PS X (.Assign [.Name x pos'] e pos) (tS mg (sSet i fe)) := ps_weak (ps_set hN hi hx he hs hf) fun De σ H h => by
  obtain ⟨E, N, c, env, st, o, st', R, q, p⟩ := tS_def.mp h
  unfold sSet at q
  split at q
  · rename_i d s1 q1
    cases q
    exact ⟨E, N, c, env, st, _, _, R, q1, fun v N' c' H' x W r => p N' c' _ H' (x.sx R.wd W) ((R.ex x W).set rfl ⟨v, rfl, r⟩)⟩
  · cases q
/-- name = a new list of the frame's own -/
theorem r_own {i : Nat} {De : Ends} {σ : L2.St} {H : Hp} (h : tS mg (sOwn i fl) De σ H) : tAsg (tL mg fl) (gName i) De σ H := by
  obtain ⟨E, N, c, env, st, o, st', R, q, p⟩ := tS_def.mp h
  unfold sOwn at q
  split at q
  · rename_i xs s1 q1
    cases q
    refine ⟨E, N, c, env, st, _, _, R, q1, fun v N' c' H' x W r => ?_⟩
    obtain ⟨a, vs, rfl, hn, na, nc, ha, rr⟩ := r
    exact p N' c' _ H' (x.sx R.wd W) ((R.ex x W).setOwn ha na nc (R.fresh0 hn) rr (R.notOwn hn))
  · cases q
theorem s_own {i : Nat} {x : Str} {pos' : Pos} (hN : X.N.Nodup) (he : PE X e (tL mg fl)) (hi : X.N[i]? = some x := by rfl) (hx : Loc X.env.scope x := by first | exact Or.inl rfl | exact Or.inr rfl) (hs : swapsWith e (some (.Name x pos')) pos.line X.env = pure false := by rfl) (hf : X.fn x = true ∨ X.env.scope.names.lookup x = some .local := by first | exact .inl rfl | exact .inr rfl) :
    PS X (.Assign [.Name x pos'] e pos) (tS mg (sOwn i fl)) := ps_weak (ps_set hN hi hx he hs hf) fun De σ H h => r_own h
theorem s_if {c : Expr} {a b : List Stmt} (hc : PT X c (tT mg t)) (ha : PSs X a (tS mg f)) (hb : PSs X b (tS mg g)) : PS X (.If c a b pos) (tS mg (sIf t f g)) := ps_weak (ps_if hc ha hb) fun De σ H h => by
  obtain ⟨E, N, c, env, st, o, st', R, q, p⟩ := tS_def.mp h
  unfold sIf at q
  split at q
  · rename_i s1 q1
    exact ⟨E, N, c, env, st, true, s1, R, q1, fun N1 c1 H1 x1 W1 => iteT (tS_def.mpr ⟨E, N1, c1, env, s1, o, st', R.ex x1 W1, q, p.from (x1.sx R.wd W1)⟩)⟩
  · rename_i s1 q1
    exact ⟨E, N, c, env, st, false, s1, R, q1, fun N1 c1 H1 x1 W1 => iteF (tS_def.mpr ⟨E, N1, c1, env, s1, o, st', R.ex x1 W1, q, p.from (x1.sx R.wd W1)⟩)⟩
  · cases q
theorem r_frz {i : Nat} {De : Ends} {σ : L2.St} {H : Hp} (h : tS mg (sFrz i f) De σ H) : tS mg f De σ H := by
  obtain ⟨E, N, c, env, st, o, st', R, q, p⟩ := tS_def.mp h
  obtain ⟨N', R', x⟩ := R.frz (i := i)
  exact tS_def.mpr ⟨E, N', c, frz i env, st, o, st', R', q, p.from x⟩
theorem s_frz (i : Nat) (h : PS X s (tS mg f)) : PS X s (tS mg (sFrz i f)) := ps_weak h fun _ _ _ z => r_frz z
end

/-! ### lists of the frame's own and cells, changed -/
def sApp (i : Nat) (f : SE) : SS := fun env st => match f env st with
  | some (d, s1) => match env[i]? with
    | some (.own xs) => if xs.length < 1000000 then some (.nx (env.set i (.own (xs ++ [d]))), s1) else none
    | _ => none
  | none => none
def sAppC (fo f : SE) : SS := fun env st => match fo env st with
  | some (.cell k, s1) => match lcG s1 k with
    | some _ => match f env s1 with
      | some (d, s2) => match lcG s2 k with
        | some xs => if xs.length < 1000000 then some (.nx env, s2.set k (xs ++ [d])) else none
        | none => none
      | none => none
    | none => none
  | _ => none
/-- x[j] = e -/
def sPut (i : Nat) (fj fe : SE) : SS := fun env st => match fe env st with
  | some (d, s1) => match fj env s1 with
    | some (.int j, s2) => match env[i]? with
      | some (.own xs) => match ixN xs.length j with
        | some n => some (.nx (env.set i (.own (xs.set n d))), s2)
        | none => none
      | _ => none
    | _ => none
  | none => none
def sPutC (fo fj fe : SE) : SS := fun env st => match fe env st with
  | some (d, s1) => match fo env s1 with
    | some (.cell k, s2) => match fj env s2 with
      | some (.int j, s3) => match lcG s3 k with
        | some xs => match ixN xs.length j with
          | some n => some (.nx env, s3.set k (xs.set n d))
          | none => none
        | none => none
      | _ => none
    | _ => none
  | none => none
theorem sz7 {n : Nat} (h : n < 1000000) : n < sizeLine := Nat.lt_trans h (by decide)
section
variable {mg : Glob} {X : Cx} {e o ej : Expr} {pos apos cpos tpos : Pos} {fe fo fj : SE}
theorem s_app {i : Nat} {x : Str} {p1 : Pos} (he : PE X e (tE mg fe)) (hN : X.N[i]? = some x := by rfl) (hv : Vis X.env.scope x := by first | exact Or.inl rfl | exact Or.inr (Or.inl rfl) | exact Or.inr (Or.inr rfl)) (hd : (x == ("__debug__" : Str)) = false := by decide)
    (hcd : (x == ("__classdict__" : Str)) = false := by decide) (hs : swapsWith (.Call (.Attribute (.Name x p1) "append" apos) [e] [] cpos) none pos.line X.env = pure false := by rfl)
    (hbase : attributeBase (.Name x p1) "append" X.env (eval (.Name x p1) X.env) = eval (.Name x p1) X.env := by rfl)
    (hfew : ((backTo cpos (starEach [e] X.env)).all (fun x => !x.1) && (backToKw cpos (keywordEach [] X.env)).all (fun x => x.1.isSome)
      && decide ([e].length + ([] : List Keyword).length + (if ([] : List Keyword).isEmpty then 0 else 1) < 30)) = true := by rfl)
    (hline : (apos.endLine == cpos.line) = true := by rfl) (hst : starEach [e] X.env = (false, eval e X.env) :: starEach [] X.env := by rfl) (hplain : (backTo cpos (starEach [] X.env)).any (·.1) = false := by rfl) :
    PS X (.Expr (.Call (.Attribute (.Name x p1) "append" apos) [e] [] cpos) pos) (tS mg (sApp i fe)) :=
  ps_weak (ps_expr (pe_bm PySem.F.plainAttrs_list PySem.F.slot_list_append PySem.F.type_list_append mt_append (pe_var hN hv hd hcd) (pa_cons he pa_nil hst) hbase hfew hline hst hplain) hs) fun De σ H h => by
    obtain ⟨E, N, c, env, st, o, st', R, q, p⟩ := tS_def.mp h
    unfold sApp at q
    split at q
    · rename_i d s1 q1
      split at q
      · rename_i xs hx
        split at q
        · rename_i hl
          cases q
          obtain ⟨a, vs, ea, ha, rr⟩ := R.sl i _ hx
          have ea := join_some ea
          refine ⟨.ref a, ea, .inl ⟨rfl, vs, SqL.of ha⟩, E, N, c, env, st, d, _, R, q1, fun v N1 c1 H1 x1 W1 r1 => ?_⟩
          have R1 := R.ex x1 W1
          obtain ⟨b, us, eb, hb, r2⟩ := R1.sl i _ hx
          rw [ea] at eb
          cases eb
          have wr := R1.write (vs := us) hx ea (r2.append (.cons r1 .nil))
          exact ⟨a, us, v, rfl, rfl, hb, by rw [r2.length]; exact sz7 hl, p N1 c1 σ _ ((x1.sx R.wd W1).trans wr.2) wr.1⟩
        · cases q
      · cases q
    · cases q
theorem s_put {i : Nat} {x : Str} {p1 : Pos} (he : PE X e (tE mg fe)) (hj : PE X ej (tP mg fj)) (hN : X.N[i]? = some x := by rfl) (hv : Vis X.env.scope x := by first | exact Or.inl rfl | exact Or.inr (Or.inl rfl) | exact Or.inr (Or.inr rfl)) (hd : (x == ("__debug__" : Str)) = false := by decide)
    (hcd : (x == ("__classdict__" : Str)) = false := by decide) (ha : ∀ v, assign (.Subscript (.Name x p1) ej tpos) X.env v = (do
      let ov ← holding [v] (eval (.Name x p1) X.env)
      let iv ← holding [v, ov] (eval ej X.env)
      standAt tpos
      holding [v, ov, iv] (setItem ov iv v)
      release [v, ov, iv] []) := by intro _; rfl) (hs : swapsWithSole [.Subscript (.Name x p1) ej tpos] e pos.line X.env = pure false := by rfl) (hw : swappedStores [.Subscript (.Name x p1) ej tpos] e X.env = pure none := by rfl)
    (h1 : (assignEach [.Subscript (.Name x p1) ej tpos] X.env).map (·.2) = [assign (.Subscript (.Name x p1) ej tpos) X.env] := by rfl) : PS X (.Assign [.Subscript (.Name x p1) ej tpos] e pos) (tS mg (sPut i fj fe)) :=
  ps_weak (ps_asg he (pg_sub (pe_var hN hv hd hcd) hj set_list ha) hs hw h1) fun De σ H h => by
    obtain ⟨E, N, c, env, st, o, st', R, q, p⟩ := tS_def.mp h
    unfold sPut at q
    split at q
    · rename_i d s1 q1
      split at q
      · rename_i j s2 q2
        split at q
        · rename_i xs hx
          split at q
          · rename_i n hn
            cases q
            refine ⟨E, N, c, env, st, d, s1, R, q1, fun v N1 c1 H1 x1 W1 r1 => ?_⟩
            have R1 := R.ex x1 W1
            obtain ⟨a, vs, ea, ha, rr⟩ := R1.sl i _ hx
            have ea := join_some ea
            refine ⟨.ref a, ea, E, N1, c1, env, s1, _, _, R1, q2, fun w N2 c2 H2 x2 W2 r2 => ?_⟩
            have R2 := R1.ex x2 W2
            obtain ⟨b, us, eb, hb, r3⟩ := R2.sl i _ hx
            rw [ea] at eb
            cases eb
            have wr := R2.write (vs := us) hx ea (r3.set (Rep.tr (x2.tr W1) r1) n)
            exact ⟨a, us, j, n, rfl, r2.int, hb, by rw [r3.length]; exact hn, p N2 c2 σ _ (((x1.trans x2 R.wd).sx R.wd W2).trans wr.2) wr.1⟩
          · cases q
        · cases q
      · cases q
    · cases q
end

/-! ### several targets -/
def gNames : List Nat → TGs
  | [] => gNil
  | i :: r => gCons (gName i) (gNames r)
def setAll : List Nat → List D → Env → Option Env
  | [], [], env => some env
  | i :: is, d :: ds, env => setAll is ds (env.set i (.val d))
  | _, _, _ => none
section
variable {mg : Glob} {X : Cx} {e : Expr} {es : List Expr} {pos : Pos} {fe : SE}
theorem g_nil : PGs X [] (gNames []) := pgs_nil
theorem g_cons {i : Nat} {is : List Nat} {x : Str} {p1 : Pos} (hN : X.N.Nodup) (h2 : PGs X es (gNames is)) (hi : X.N[i]? = some x := by rfl) (hx : Loc X.env.scope x := by first | exact Or.inl rfl | exact Or.inr rfl) (hf : X.fn x = true ∨ X.env.scope.names.lookup x = some .local := by first | exact .inl rfl | exact .inr rfl)
    (hs : (assignEach (.Name x p1 :: es) X.env).map (·.2) = assign (.Name x p1) X.env :: (assignEach es X.env).map (·.2) := by rfl) : PGs X (.Name x p1 :: es) (gNames (i :: is)) := pgs_cons (pg_name hN hi hx hf) h2 hs
theorem r_names {E : En} {N : Prot} {c : List Addr} {H : Hp} {st : Sto} {Q : L2.St → Hp → Prop} : ∀ {is : List Nat} {ds : List D} {vs : List V} {env env' : Env} {σ : L2.St}, Rel mg E N c env st σ H → RepL mg N c H vs ds → setAll is ds env = some env' → (∀ σ', Rel mg E N c env' st σ' H → Q σ' H) → gNames is vs σ H Q
  | [], [], _, _, _, σ, R, .nil, e, k => by
    cases e
    exact ⟨rfl, k σ R⟩
  | [], _ :: _, _, _, _, _, _, _, e, _ => by cases e
  | _ :: _, [], _, _, _, _, _, _, e, _ => by cases e
  | i :: is, d :: ds, _, env, env', σ, R, .cons h t, e, k => by
    refine ⟨_, _, rfl, ?_⟩
    exact r_names (R.set (s := .val d) rfl ⟨_, rfl, h⟩) t e k
theorem setAll_len : ∀ {is : List Nat} {ds : List D} {env env' : Env}, setAll is ds env = some env' → ds.length = is.length
  | [], [], _, _, _ => rfl
  | [], _ :: _, _, _, e => by cases e
  | _ :: _, [], _, _, e => by cases e
  | i :: is, d :: ds, env, env', e => by rw [List.length_cons, List.length_cons, setAll_len (show setAll is ds (env.set i (.val d)) = some env' from e)]
/-- (a, b, ..) = e -/
def sUnp (is : List Nat) (f : SE) : SS := fun env st => match f env st with
  | some (.tup ds, s1) => match setAll is ds env with
    | some env' => some (.nx env', s1)
    | none => none
  | _ => none
theorem s_unp {is : List Nat} {k : Nat} {tpos : Pos} (hc : X.calm = true) (he : PE X e (tE mg fe)) (hg : PGs X es (gNames is)) (hn : (assignEach es X.env).length = is.length := by rfl) (hst : (assignEach es X.env).findIdx? (·.1) = none := by rfl)
    (hs : swapsWithSole [.Tuple es k tpos] e pos.line X.env = pure false := by rfl) (hw : swappedStores [.Tuple es k tpos] e X.env = pure none := by rfl) (h1 : (assignEach [.Tuple es k tpos] X.env).map (·.2) = [assign (.Tuple es k tpos) X.env] := by rfl) :
    PS X (.Assign [.Tuple es k tpos] e pos) (tS mg (sUnp is fe)) := ps_weak (ps_asg he (pg_tup hc hg hn hst) hs hw h1) fun De σ H h => by
  obtain ⟨E, N, c, env, st, o, st', R, q, p⟩ := tS_def.mp h
  unfold sUnp at q
  split at q
  · rename_i ds s1 q1
    split at q
    · rename_i env' hs
      cases q
      refine ⟨E, N, c, env, st, _, _, R, q1, fun v N1 c1 H1 x1 W1 r1 => ?_⟩
      obtain ⟨a, vs, rfl, ha, rr⟩ := RepT.tup (.inl r1)
      refine ⟨a, vs, rfl, SqT.of ha, by rw [rr.length]; exact setAll_len hs, r_names (R.ex x1 W1) rr hs fun σ' R' => p N1 c1 σ' H1 (x1.sx R.wd W1) R'⟩
    · cases q
  · cases q
end
end LW

/-! LwJ: what is walked; for; list comprehensions. -/
namespace LW
open PySem L2 PyProof.Rows

/-- what is walked: the items, and what must stay true of the cells meanwhile -/
abbrev Src := List D × (Sto → Bool)
def noChk : Sto → Bool := fun _ => true
/-- the iterator J yields the items xs, from a state on, as long as what is not protected stays -/
structure ItL (mg : Glob) (J : It) (xs : Src) (N1 : Prot) (c1 : List Addr) (H1 : Hp) : Prop where
  stop : ∀ N c H st, Sx N1 c1 H1 N c H → Wd mg N c H st → xs.2 st = true → J.stop xs.1.length H
  go : ∀ (i : Nat) N c H st, i < xs.1.length → Sx N1 c1 H1 N c H → Wd mg N c H st → xs.2 st = true → J.go i H
  yld : ∀ (i : Nat) N c H st x H', i < xs.1.length → Sx N1 c1 H1 N c H → Wd mg N c H st → xs.2 st = true → J.yld i H x H' → ∃ d, xs.1[i]? = some d ∧ Ex N c H N c H' ∧ Wd mg N c H' st ∧ Rep mg N c H' x d
def tI (mg : Glob) (f : Fx Src) : TI := fun σ H R => ∃ (E : En) (N : Prot) (c : List Addr) (env : Env) (st : Sto) (xs : Src) (st' : Sto), Rel mg E N c env st σ H ∧ f env st = some (xs, st') ∧
  ∀ J N' c' H', Ex N c H N' c' H' → Wd mg N' c' H' st' → ItL mg J xs N' c' H' → R J H'
/-- a target: asg sets the slots is -/
def Dif (is : List Nat) (σ σ' : L2.St) : Prop := ∀ vs : List Nat, (∀ i ∈ is, i ∈ vs) → wipe σ' vs = wipe σ vs
def GOk (mg : Glob) (g : TG) (asg : D → Env → Option Env) (is : List Nat) : Prop := ∀ (E : En) (N : Prot) (c : List Addr) (env env' : Env) (st : Sto) (σ : L2.St) (H : Hp) (v : V) (d : D) (Q : L2.St → Hp → Prop), Rel mg E N c env st σ H → Rep mg N c H v d → asg d env = some env' →
  (∀ σ', Rel mg E N c env' st σ' H → Dif is σ σ' → Q σ' H) → g v σ H Q
def asgN (i : Nat) : D → Env → Option Env := fun d env => some (env.set i (.val d))
def asgT (is : List Nat) : D → Env → Option Env := fun d env => match d with
  | .tup ds => setAll is ds env
  | _ => none
section
variable {mg : Glob}
theorem wipe_set : ∀ {vs : List Nat} {σ : L2.St} {i : Nat} {y : Option V}, i ∈ vs → wipe (σ.set i y) vs = wipe σ vs
  | [], _, _, _, h => by cases h
  | v :: vs, σ, i, y, h => by
    unfold wipe
    by_cases e : i ∈ vs
    · rw [wipe_set e]
    · have ev : i = v := (List.mem_cons.mp h).elim (fun z => z) fun z => absurd z e
      subst ev
      have : ∀ (us : List Nat), i ∉ us → wipe (σ.set i y) us = (wipe σ us).set i y := by
        intro us
        induction us with
        | nil => intro _; rfl
        | cons u us ih =>
          intro hu
          rw [List.mem_cons, not_or] at hu
          unfold wipe
          rw [ih hu.2, List.set_comm _ _ hu.1]
      rw [this vs e, List.set_set]
theorem gok_name (i : Nat) : GOk mg (gName i) (asgN i) [i] := by
  intro E N c env env' st σ H v d Q R r e k
  cases e
  exact k _ (R.set (s := .val d) rfl ⟨v, rfl, r⟩) fun vs h => wipe_set (h i (by simp))
theorem dif_refl {is : List Nat} {σ : L2.St} : Dif is σ σ := fun _ _ => rfl
theorem r_namesD {E : En} {N : Prot} {c : List Addr} {H : Hp} {st : Sto} {Q : L2.St → Hp → Prop} : ∀ {is : List Nat} {ds : List D} {vs : List V} {env env' : Env} {σ : L2.St}, Rel mg E N c env st σ H → RepL mg N c H vs ds → setAll is ds env = some env' → (∀ σ', Rel mg E N c env' st σ' H → Dif is σ σ' → Q σ' H) → gNames is vs σ H Q
  | [], [], _, _, _, σ, R, .nil, e, k => by
    cases e
    exact ⟨rfl, k σ R dif_refl⟩
  | [], _ :: _, _, _, _, _, _, _, e, _ => by cases e
  | _ :: _, [], _, _, _, _, _, _, e, _ => by cases e
  | i :: is, d :: ds, _, env, env', σ, R, .cons h t, e, k => by
    refine ⟨_, _, rfl, ?_⟩
    refine r_namesD (R.set (s := .val d) rfl ⟨_, rfl, h⟩) t e fun σ' R' df => k σ' R' fun vs hv => ?_
    rw [df vs fun j hj => hv j (List.mem_cons_of_mem _ hj)]
    exact wipe_set (hv i List.mem_cons_self)
theorem gok_tup {K : PySem.W.Frag} (is : List Nat) (n : Nat) (hn : n = is.length) : GOk mg (gTup K n (gNames is)) (asgT is) is := by
  intro E N c env env' st σ H v d Q R r e k
  unfold asgT at e
  split at e
  · obtain ⟨a, vs, rfl, ha, rr⟩ := RepT.tup (.inl r)
    exact ⟨a, vs, rfl, SqT.of ha, by rw [rr.length, hn]; exact setAll_len e, r_namesD R rr e k⟩
  · cases e
end

/-! ### for -/
def loopM (chk : Sto → Bool) (asg : D → Env → Option Env) (body : SS) : List D → Env → Sto → Option (Out × Sto)
  | [], env, st => if chk st = true then some (.nx env, st) else none
  | d :: ds, env, st => if chk st = true then (match asg d env with
    | none => none
    | some e1 => match body e1 st with
      | some (.nx e2, s2) => loopM chk asg body ds e2 s2
      | some (.ct e2, s2) => loopM chk asg body ds e2 s2
      | some (.bk e2, s2) => some (.nx e2, s2)
      | some (.rt d, s2) => some (.rt d, s2)
      | none => none) else none
def sFor (fi : Fx Src) (asg : D → Env → Option Env) (body : SS) : SS := fun env st => match fi env st with
  | none => none
  | some (xs, s1) => loopM xs.2 asg body xs.1 env s1
section
variable {mg : Glob} {X : Cx} {tg iter : Expr} {body : List Stmt} {pos : Pos} {fi : Fx Src} {asg : D → Env → Option Env} {fb : SS} {g : TG} {is : List Nat}
theorem r_for (hg : GOk mg g asg is) {De : Ends} {σ : L2.St} {H : Hp} (h : tS mg (sFor fi asg fb) De σ H) : tFor (tI mg fi) g (tS mg fb) De σ H := by
  obtain ⟨E, N, c, env, st, o, st', R, q, p⟩ := tS_def.mp h
  unfold sFor at q
  split at q
  · cases q
  · rename_i src s1 q1
    obtain ⟨xs, chk⟩ := src
    refine ⟨E, N, c, env, st, (xs, chk), s1, R, q1, fun J N1 c1 H1 x1 W1 il => ?_⟩
    have R1 := R.ex x1 W1
    have sx1 := x1.sx R.wd W1
    refine ⟨fun i m σ' H' => m = xs.length - i ∧ i ≤ xs.length ∧ ∃ N' c' env' st2, Sx N1 c1 H1 N' c' H' ∧ Rel mg E N' c' env' st2 σ' H' ∧ loopM chk asg fb (xs.drop i) env' st2 = some (o, st'),
      ⟨xs.length, by omega, Nat.zero_le _, N1, c1, env, s1, Sx.refl, R1, by rw [List.drop_zero]; exact q⟩, ?_⟩
    rintro i m σ' H' ⟨rfl, hi, N', c', env', st2, sx, R', ql⟩
    by_cases hlt : i < xs.length
    · have ed : xs.drop i = xs[i] :: xs.drop (i + 1) := List.drop_eq_getElem_cons hlt
      rw [ed] at ql
      unfold loopM at ql
      split at ql
      · rename_i hck
        refine .inr ⟨il.go i N' c' H' st2 hlt sx R'.wd hck, fun σ3 H3 => ∃ N3 c3 env3 st3, Sx N1 c1 H1 N3 c3 H3 ∧ Rel mg E N3 c3 env3 st3 σ3 H3 ∧ loopM chk asg fb (xs.drop (i + 1)) env3 st3 = some (o, st'), fun σ3 H3 z => ?_, fun x H2 y => ?_⟩
        · exact ⟨xs.length - (i + 1), by omega, rfl, hlt, z⟩
        · obtain ⟨d, hd, x2, W2, r2⟩ := il.yld i N' c' H' st2 x H2 hlt sx R'.wd hck y
          have ed2 : xs[i] = d := by
            obtain ⟨_, e⟩ := List.getElem?_eq_some_iff.mp hd
            exact e
          rw [ed2] at ql
          split at ql
          · cases ql
          · rename_i e1 ha
            have R2 := R'.ex x2 W2
            have sx2 := sx.trans (x2.sx R'.wd W2)
            refine hg E N' c' env' e1 st2 σ' H2 x d _ R2 r2 ha fun σ4 R4 _ => ?_
            split at ql
            · rename_i e2 s2 qb
              exact tS_def.mpr ⟨E, N', c', e1, st2, .nx e2, s2, R4, qb, fun N5 c5 σ5 H5 x5 R5 => ⟨N5, c5, e2, s2, sx2.trans x5, R5, ql⟩⟩
            · rename_i e2 s2 qb
              exact tS_def.mpr ⟨E, N', c', e1, st2, .ct e2, s2, R4, qb, fun N5 c5 σ5 H5 x5 R5 => ⟨N5, c5, e2, s2, sx2.trans x5, R5, ql⟩⟩
            · rename_i e2 s2 qb
              cases ql
              exact tS_def.mpr ⟨E, N', c', e1, st2, .bk e2, _, R4, qb, fun N5 c5 σ5 H5 x5 R5 => p N5 c5 σ5 H5 (sx1.trans (sx2.trans x5)) R5⟩
            · rename_i d2 s2 qb
              cases ql
              exact tS_def.mpr ⟨E, N', c', e1, st2, .rt d2, _, R4, qb, p⟩
            · cases ql
      · cases ql
    · have e : i = xs.length := by omega
      subst e
      rw [List.drop_length] at ql
      unfold loopM at ql
      split at ql
      · rename_i hck
        cases ql
        exact .inl ⟨il.stop N' c' H' _ sx R'.wd hck, p N' c' σ' H' (sx1.trans sx) R'⟩
      · cases ql
theorem s_for (hp : PassesOwn (model X.prog X.w) X.A X.env X.xe) (hc : X.calm = true) (hi : PI X tg iter (tI mg fi)) (hgg : PG X tg g) (hg : GOk mg g asg is) (hb : PSs X body (tS mg fb)) (hs : ∀ x, foldedSetIterable iter X.env x = pure x := by intro _; rfl) :
    PS X (.For tg iter body [] pos) (tS mg (sFor fi asg fb)) := ps_weak (ps_for hp hc hi hgg hb hs) fun De σ H h => r_for hg h
/-- the targets: one name; several -/
theorem t_name {i : Nat} {x : Str} {p1 : Pos} (hN : X.N.Nodup) (hi : X.N[i]? = some x := by rfl) (hx : Loc X.env.scope x := by first | exact Or.inl rfl | exact Or.inr rfl) (hf : X.fn x = true ∨ X.env.scope.names.lookup x = some .local := by first | exact .inl rfl | exact .inr rfl) : PG X (.Name x p1) (gName i) := pg_name hN hi hx hf
theorem t_tup {es : List Expr} {k : Nat} {tpos : Pos} (hc : X.calm = true) (h : PGs X es (gNames is)) {n : Nat} (hn : (assignEach es X.env).length = n := by rfl) (hst : (assignEach es X.env).findIdx? (·.1) = none := by rfl) : PG X (.Tuple es k tpos) (gTup X.K n (gNames is)) := pg_tup hc h hn hst
end

/-! ### sources -/
def iSeq (f : SE) : Fx Src := fun env st => match f env st with
  | some (.lst xs, s1) => some ((xs, noChk), s1)
  | some (.tup xs, s1) => some ((xs, noChk), s1)
  | some (.cell k, s1) => match lstI s1 (.cell k) with
    | some ns => some ((ns.map D.int, fun st => decide (lstI st (.cell k) = some ns)), s1)
    | none => none
  | _ => none
theorem pi_or {X : Cx} {tg it : Expr} {t t' : TI} (h : PI X tg it t) (h' : PI X tg it t') : PI X tg it (fun σ H R => t σ H R ∨ t' σ H R) := ⟨fun pins s σ H R I q => q.elim (h.run pins s σ H R I) (h'.run pins s σ H R I)⟩
section
variable {mg : Glob} {N : Prot} {c : List Addr} {H : Hp} {K : PySem.W.Frag}
theorem il_list {a : Addr} {vs : List V} {xs : List D} (ha : H a = some (.lst vs)) (n : ¬ N a) (r : RepL mg N c H vs xs) : ItL mg (Itl K a) (xs, noChk) N c H where
  stop := fun N' c' H' st sx _ _ => ⟨vs, SqL.of (sx.keep a _ ha n), by rw [r.length]; exact Nat.le_refl _⟩
  go := fun i N' c' H' st hi sx _ _ => by
    obtain ⟨v, hv, _⟩ := r.get (List.getElem?_eq_getElem hi)
    exact ⟨vs, v, SqL.of (sx.keep a _ ha n), hv⟩
  yld := fun i N' c' H' st x H2 hi sx W _ y => by
    obtain ⟨rfl, hy⟩ := y
    obtain ⟨v, hv, rv⟩ := r.get (List.getElem?_eq_getElem hi)
    have e := hy vs (SqL.of (sx.keep a _ ha n))
    rw [hv] at e
    cases e
    exact ⟨xs[i], List.getElem?_eq_getElem hi, Ex.refl, W, rv.tr sx.tr⟩
theorem il_tup {a : Addr} {vs : List V} {xs : List D} (ha : H a = some (.tup vs)) (r : RepL mg N c H vs xs) : ItL mg (Itt K a) (xs, noChk) N c H where
  stop := fun N' c' H' st sx _ _ => ⟨vs, SqT.of (sx.tup a _ ha), by rw [r.length]; exact Nat.le_refl _⟩
  go := fun i N' c' H' st hi sx _ _ => by
    obtain ⟨v, hv, _⟩ := r.get (List.getElem?_eq_getElem hi)
    exact ⟨vs, v, SqT.of (sx.tup a _ ha), hv⟩
  yld := fun i N' c' H' st x H2 hi sx W _ y => by
    obtain ⟨rfl, hy⟩ := y
    obtain ⟨v, hv, rv⟩ := r.get (List.getElem?_eq_getElem hi)
    have e := hy vs (SqT.of (sx.tup a _ ha))
    rw [hv] at e
    cases e
    exact ⟨xs[i], List.getElem?_eq_getElem hi, Ex.refl, W, rv.tr sx.tr⟩
/-- a cell that holds whole numbers, as long as it holds the same -/
theorem il_cell {k : Nat} {a : Addr} {ns : List Int} (hk : c[k]? = some a) : ItL mg (Itl K a) (ns.map D.int, fun st => decide (lstI st (.cell k) = some ns)) N c H := by
  have look : ∀ N' c' H' (st : Sto), Sx N c H N' c' H' → Wd mg N' c' H' st → decide (lstI st (.cell k) = some ns) = true → H' a = some (.lst (ns.map V.int)) := fun N' c' H' st sx W e => by
    have e : (match lcG st k with | some xs => intsOf xs | none => none) = some ns := of_decide_eq_true e
    cases hs : lcG st k with
    | none => rw [hs] at e; cases e
    | some xs =>
      rw [hs] at e
      obtain ⟨vs, ha, r⟩ := W.lstC (sx.pre k a hk) hs
      rw [intsOf_eq e] at r
      rw [r.of_ints] at ha
      exact ha
  refine ⟨fun N' c' H' st sx W e => ⟨_, SqL.of (look N' c' H' st sx W e), by rw [List.length_map, List.length_map]; exact Nat.le_refl _⟩, fun i N' c' H' st hi sx W e => ?_, fun i N' c' H' st x H2 hi sx W e y => ?_⟩
  · rw [List.length_map] at hi
    exact ⟨_, .int ns[i], SqL.of (look N' c' H' st sx W e), by rw [List.getElem?_map, List.getElem?_eq_getElem hi]; rfl⟩
  · rw [List.length_map] at hi
    obtain ⟨rfl, hy⟩ := y
    have e2 := hy _ (SqL.of (look N' c' _ st sx W e))
    rw [List.getElem?_map, List.getElem?_eq_getElem hi] at e2
    cases e2
    exact ⟨.int ns[i], by rw [List.getElem?_map, List.getElem?_eq_getElem hi]; rfl, Ex.refl, W, .int _⟩
/-- a, a + c, a + 2 c .. -/
def rangeD (a s : Int) (n : Nat) : List D := (List.range n).map fun (i : Nat) => .int (a + (i : Int) * s)
theorem rangeD_len {a s : Int} {n : Nat} : (rangeD a s n).length = n := by
  unfold rangeD
  rw [List.length_map, List.length_range]
theorem rangeD_get {a s : Int} {n i : Nat} (h : i < n) : (rangeD a s n)[i]? = some (.int (a + (i : Int) * s)) := by
  unfold rangeD
  rw [List.getElem?_map, List.getElem?_range h]
  rfl
theorem il_range {lo : Int} {n : Nat} : ItL mg (Itr lo n) (rangeD lo 1 n, noChk) N c H where
  stop := fun N' c' H' st sx _ _ => by show n ≤ (rangeD lo 1 n).length; rw [rangeD_len]; exact Nat.le_refl _
  go := fun i N' c' H' st hi sx _ _ => by
    have hi : i < (rangeD lo 1 n).length := hi
    rw [rangeD_len] at hi; exact hi
  yld := fun i N' c' H' st x H2 hi sx W _ y => by
    have hi : i < (rangeD lo 1 n).length := hi
    obtain ⟨rfl, rfl⟩ := y
    rw [rangeD_len] at hi
    refine ⟨_, rangeD_get hi, Ex.refl, W, ?_⟩
    rw [Int.mul_one]
    exact .int _
theorem il_rangeC {lo s : Int} {n : Nat} : ItL mg (Itc lo s n) (rangeD lo s n, noChk) N c H where
  stop := fun N' c' H' st sx _ _ => by show n ≤ (rangeD lo s n).length; rw [rangeD_len]; exact Nat.le_refl _
  go := fun i N' c' H' st hi sx _ _ => by
    have hi : i < (rangeD lo s n).length := hi
    rw [rangeD_len] at hi; exact hi
  yld := fun i N' c' H' st x H2 hi sx W _ y => by
    have hi : i < (rangeD lo s n).length := hi
    obtain ⟨rfl, rfl⟩ := y
    rw [rangeD_len] at hi
    exact ⟨_, rangeD_get hi, Ex.refl, W, .int _⟩
end
def inR (i : Int) : Bool := decide (-(2 ^ 62) ≤ i) && decide (i < 2 ^ 62)
theorem inR_ok {i : Int} (h : inR i = true) : -(2 ^ 62) ≤ i ∧ i < 2 ^ 62 := by
  unfold inR at h
  rw [Bool.and_eq_true] at h
  exact ⟨of_decide_eq_true h.1, of_decide_eq_true h.2⟩
def iRg1 (f : SA) : Fx Src := fun env st => match f env st with
  | some ([.int j], s1) => if inR j = true then some ((rangeD 0 1 j.toNat, noChk), s1) else none
  | _ => none
def iRg2 (f : SA) : Fx Src := fun env st => match f env st with
  | some ([.int i, .int j], s1) => if inR i = true ∧ inR j = true then some ((rangeD i 1 (j - i).toNat, noChk), s1) else none
  | _ => none
def iRg3 (f : SA) : Fx Src := fun env st => match f env st with
  | some ([.int i, .int j, .int k], s1) => if (k ≠ 0 ∧ k.natAbs < 1073741824) ∧ Builtin.Range.small i j k = true ∧ Builtin.Range.rangeSize i j k = ((Builtin.Range.rangeSize i j k).toNat : Int) then some ((rangeD i k (Builtin.Range.rangeSize i j k).toNat, noChk), s1) else none
  | _ => none
section
variable {mg : Glob} {X : Cx} {tg e : Expr} {fe : SE} {f : SA}
theorem i_seq (h : PE X e (tE mg fe)) (hK : X.K = mg.K := by rfl) : PI X tg e (tI mg (iSeq fe)) := pi_weak (pi_or (pi_list h) (pi_tup h)) fun σ H R' ⟨E, N, c, env, st, xs, st', R, q, k⟩ => by
  unfold iSeq at q
  split at q
  · rename_i ys s1 q1
    cases q
    refine .inl ⟨E, N, c, env, st, _, _, R, q1, fun v N1 c1 H1 x1 W1 r1 => ?_⟩
    cases r1 with
    | lst ha n r => exact ⟨_, rfl, ⟨_, SqL.of ha⟩, k _ N1 c1 H1 x1 W1 (il_list ha n r)⟩
  · rename_i ys s1 q1
    cases q
    refine .inr ⟨E, N, c, env, st, _, _, R, q1, fun v N1 c1 H1 x1 W1 r1 => ?_⟩
    cases r1 with
    | tup ha r => exact ⟨_, rfl, ⟨_, SqT.of ha⟩, k _ N1 c1 H1 x1 W1 (il_tup ha r)⟩
  · rename_i kk s1 q1
    split at q
    · rename_i ns hn
      cases q
      refine .inl ⟨E, N, c, env, st, _, _, R, q1, fun v N1 c1 H1 x1 W1 r1 => ?_⟩
      obtain ⟨a, rfl, ha⟩ := RepT.ints W1 (.inl r1) hn
      cases r1 with
      | cell hk => exact ⟨a, rfl, ⟨_, hK ▸ ha⟩, k _ N1 c1 H1 x1 W1 (il_cell hk)⟩
    · cases q
  · cases q
theorem tl1' {N : Prot} {c : List Addr} {H : Hp} {us : List V} {i : Int} (h : RepTL mg N c H us [.int i]) : us = [.int i] := by
  obtain ⟨u, rfl, z⟩ := tl1 h
  rw [z.int]
theorem i_rg1 {a : Expr} {p pos : Pos} (hm : X.mg "range" = none) (ha : PA X [a] (tAP mg f)) (hg : Gl X "range" := by rfl) (hs : starEach [a] X.env = [(false, eval a X.env)] := by rfl) : PI X tg (.Call (.Name "range" p) [a] [] pos) (tI mg (iRg1 f)) := pi_weak (pi_range1 hg hm ha hs) fun σ H R' ⟨E, N, c, env, st, xs, st', R, q, k⟩ => by
  unfold iRg1 at q
  split at q
  · rename_i j s1 q1
    split at q
    · rename_i hr
      cases q
      refine ⟨E, N, c, env, st, _, _, R, q1, fun vs N1 c1 H1 x1 W1 r1 => ?_⟩
      obtain ⟨h1, h2⟩ := inR_ok hr
      exact ⟨j, tl1' r1, h1, h2, k _ N1 c1 H1 x1 W1 il_range⟩
    · cases q
  · cases q
theorem i_rg3 {a b d : Expr} {p pos : Pos} (hm : X.mg "range" = none) (ha : PA X [a, b, d] (tAP mg f)) (hg : Gl X "range" := by rfl) (hs : starEach [a, b, d] X.env = (false, eval a X.env) :: starEach [b, d] X.env := by rfl) (hpl : (backTo pos (starEach [b, d] X.env)).any (·.1) = false := by rfl) :
    PI X tg (.Call (.Name "range" p) [a, b, d] [] pos) (tI mg (iRg3 f)) := pi_weak (pi_range3 hg hm ha hs hpl) fun σ H R' ⟨E, N, c, env, st, xs, st', R, q, k⟩ => by
  unfold iRg3 at q
  split at q
  · rename_i i j kk s1 q1
    split at q
    · rename_i hr
      cases q
      refine ⟨E, N, c, env, st, _, _, R, q1, fun vs N1 c1 H1 x1 W1 r1 => ?_⟩
      obtain ⟨⟨h1, h2⟩, h3, h4⟩ := hr
      cases r1 with
      | cons z t =>
        obtain ⟨u, u', rfl, z', z''⟩ := tl2 t
        exact ⟨i, j, kk, _, by rw [z.int, z'.int, z''.int], ⟨h1, h2, h3, h4⟩, k _ N1 c1 H1 x1 W1 il_rangeC⟩
    · cases q
  · cases q
end

/-! ### list comprehensions -/
def wipeE (env : Env) : List Nat → Env
  | [] => env
  | v :: vs => (wipeE env vs).set v .un
def compM (chk : Sto → Bool) (asg : D → Env → Option Env) (cond : SB) (elt : SE) (env0 : Env) : List D → Sto → Option (List D × Sto)
  | [], st => if chk st = true then some ([], st) else none
  | d :: ds, st => if chk st = true then (match asg d env0 with
    | none => none
    | some e1 => match cond e1 st with
      | none => none
      | some (false, s1) => compM chk asg cond elt env0 ds s1
      | some (true, s1) => match elt e1 s1 with
        | none => none
        | some (y, s2) => match compM chk asg cond elt env0 ds s2 with
          | none => none
          | some (ys, s3) => some (y :: ys, s3)) else none
def lComp (fi : Fx Src) (asg : D → Env → Option Env) (cond : SB) (elt : SE) (vs : List Nat) : Fx (List D) := fun env st => match fi env st with
  | none => none
  | some (xs, s1) => if xs.1.length ≤ 1000000 then compM xs.2 asg cond elt (wipeE env vs) xs.1 s1 else none
def bYes : SB := fun _ st => some (true, st)
section
variable {mg : Glob}
theorem Rel.wipe {E : En} {N : Prot} {c : List Addr} {env : Env} {st : Sto} {σ : L2.St} {H : Hp} (R : Rel mg E N c env st σ H) : ∀ (vs : List Nat), Rel mg E N c (wipeE env vs) st (L2.wipe σ vs) H
  | [] => R
  | v :: vs => by
    have R0 := Rel.wipe R vs
    unfold wipeE L2.wipe
    refine ⟨by rw [List.length_set, List.length_set]; exact R0.len, fun j s' e => ?_, fun j s' a e ho es => ?_, fun j k s1 s2 a e1 o1 e2 o2 h1 h2 => ?_, R0.wd, R0.n0, R0.t0, R0.base, R0.pre, R0.newc, fun j cn ns ds b e es => ?_⟩
    · rcases get_set e with ⟨rfl, rfl⟩ | ⟨ne, e⟩
      · trivial
      · rw [List.getElem?_set_ne ne]
        exact R0.sl j s' e
    · rcases get_set e with ⟨rfl, rfl⟩ | ⟨ne, e⟩
      · cases ho
      · rw [List.getElem?_set_ne ne] at es
        exact R0.own j s' a e ho es
    · rcases get_set e1 with ⟨rfl, rfl⟩ | ⟨n1, e1⟩
      · cases o1
      · rcases get_set e2 with ⟨rfl, rfl⟩ | ⟨n2, e2⟩
        · cases o2
        · rw [List.getElem?_set_ne n1] at h1
          rw [List.getElem?_set_ne n2] at h2
          exact R0.inj j k s1 s2 a e1 o1 e2 o2 h1 h2
    · rcases get_set e with ⟨rfl, e2⟩ | ⟨ne, e⟩
      · cases e2
      · rw [List.getElem?_set_ne ne] at es
        exact R0.slf j cn ns ds b e es
/-- a protected list that nobody else holds grows -/
theorem Rel.grow {E : En} {N : Prot} {c : List Addr} {env : Env} {st : Sto} {σ : L2.St} {H : Hp} {p : Addr} {us : List V} (R : Rel mg E N c env st σ H) (np : N p) (nc : p ∉ c) (h0 : E.H0 p = none) (hp : ∃ o, H p = some o ∧ ∀ us, o ≠ .tup us) (nw : ∀ (j : Nat) s, env[j]? = some s → s.isOwn = true → σ[j]? ≠ some (some (.ref p))) :
    Rel mg E N c env st σ (upd H p (.lst us)) ∧ Sx N c H N c (upd H p (.lst us)) := by
  have keep : ∀ b o, H b = some o → ¬ N b → (upd H p (.lst us)) b = some o := fun b o e n => by
    rw [upd_ne (show b ≠ p from fun z => n (z ▸ np))]; exact e
  have tk : ∀ b, (upd H p (.lst us)) b = none → H b = none := fun b e => by
    by_cases q : b = p
    · rw [q, upd_same] at e; cases e
    · rw [upd_ne q] at e; exact e
  have sx : Sx N c H N c (upd H p (.lst us)) := ⟨keep, fun _ z => .inl z, fun _ _ z => z, fun _ z => .inl z, tk, fun b us e => by rw [upd_ne (fun z => by obtain ⟨o, h1, h2⟩ := hp; rw [z, h1] at e; cases e; exact h2 us rfl)]; exact e⟩
  refine ⟨⟨R.len, fun j s' e => ?_, R.own, R.inj, ?_, R.n0, R.t0, fun b o e n => ?_, R.pre, R.newc, R.slf⟩, sx⟩
  · have q := R.sl j s' e
    cases s' with
    | un => trivial
    | val d => obtain ⟨v, ev, rv⟩ := q; exact ⟨v, ev, rv.tr sx.tr⟩
    | own ys =>
      obtain ⟨b, us', ev, hb', rv⟩ := q
      have : b ≠ p := fun z => nw j _ e rfl (by rw [← z]; exact join_some ev)
      exact ⟨b, us', ev, by rw [upd_ne this]; exact hb', rv.tr sx.tr⟩
    | ownI cn ns ds =>
      obtain ⟨b, C, dx, fs, ev, hc, hb', hn, rv⟩ := q
      have : b ≠ p := fun z => nw j _ e rfl (by rw [← z]; exact join_some ev)
      exact ⟨b, C, dx, fs, ev, hc, by rw [upd_ne this]; exact hb', hn, rv.tr sx.tr⟩
    | ownD ks ds =>
      obtain ⟨b, kvs, ev, hb', hn, rv⟩ := q
      have : b ≠ p := fun z => nw j _ e rfl (by rw [← z]; exact join_some ev)
      exact ⟨b, kvs, ev, by rw [upd_ne this]; exact hb', hn, rv.tr sx.tr⟩
    | ownT ks ds =>
      obtain ⟨b, kvs, ev, hb', hn, rv⟩ := q
      have : b ≠ p := fun z => nw j _ e rfl (by rw [← z]; exact join_some ev)
      exact ⟨b, kvs, ev, by rw [upd_ne this]; exact hb', hn, rv.tr sx.tr⟩
  · exact ⟨R.wd.len, fun k b ys h1 h2 => by
      obtain ⟨us', hb', rr⟩ := R.wd.sto k b ys h1 h2
      exact ⟨us', by rw [upd_ne (show b ≠ p from fun z => nc (z ▸ List.mem_of_getElem? h1))]; exact hb', rr.tr sx.tr⟩, R.wd.cn, R.wd.nd, fun b z e => R.wd.trk b z (tk b e)⟩
  · have : b ≠ p := fun z => by rw [z, h0] at e; cases e
    rw [upd_ne this]
    exact R.base b o e n
theorem wipe_none : ∀ {vs : List Nat} {σ : L2.St} {i : Nat}, i ∈ vs → (L2.wipe σ vs).set i none = L2.wipe σ vs
  | [], _, _, h => by cases h
  | v :: vs, σ, i, h => by
    unfold L2.wipe
    by_cases e : i = v
    · subst e
      rw [List.set_set]
    · have hi : i ∈ vs := (List.mem_cons.mp h).elim (fun z => absurd z e) fun z => z
      rw [List.set_comm _ _ (Ne.symm e), wipe_none hi]
theorem wipe_idem : ∀ {vs us : List Nat} {σ : L2.St}, (∀ i ∈ us, i ∈ vs) → L2.wipe (L2.wipe σ vs) us = L2.wipe σ vs
  | _, [], _, _ => rfl
  | vs, u :: us, σ, h => by
    show (L2.wipe (L2.wipe σ vs) us).set u none = _
    rw [wipe_idem fun i hi => h i (List.mem_cons_of_mem _ hi)]
    exact wipe_none (h u List.mem_cons_self)
variable {fi : Fx Src} {asg : D → Env → Option Env} {cond : SB} {elt : SE} {g : TG} {is vs : List Nat}
theorem r_lc (hg : GOk mg g asg is) (hv : ∀ i ∈ is, i ∈ vs) {σ : L2.St} {H : Hp} {Q : VK} (h : tL mg (lComp fi asg cond elt vs) σ H Q) : tLc (tI mg fi) g (tT mg cond) (tE mg elt) vs σ H Q := by
  obtain ⟨E, N, c, env, st, d, st', R, q, k⟩ := h
  unfold lComp at q
  split at q
  · cases q
  · rename_i src s1 q1
    obtain ⟨xs, chk⟩ := src
    split at q
    · rename_i hl
      have hl : xs.length ≤ 1000000 := hl
      refine ⟨E, N, c, env, st, (xs, chk), s1, R, q1, fun J N1 c1 H1 x1 W1 il => fun p hp => ?_⟩
      have R1 := R.ex x1 W1
      have x2 := Ex.laidN (o := .lst []) W1 hp
      have W2 := W1.laidN (o := .lst []) hp
      have h0 : E.H0 p = none := R1.fresh0 hp
      have hpH : H p = none := x1.free R.wd W1 hp
      have nw := (R1.wipe vs).notOwn hp
      refine ⟨fun i m H' => m = xs.length - i ∧ i ≤ xs.length ∧ ∃ N' c' st2 accD accV ys, Ex N c H N' c' H' ∧ Sx N1 c1 H1 N' c' H' ∧ Rel mg E N' c' (wipeE env vs) st2 (L2.wipe σ vs) H' ∧ N' p ∧ p ∉ c' ∧ H' p = some (.lst accV) ∧ RepL mg N' c' H' accV accD ∧ accD.length ≤ i ∧
        compM chk asg cond elt (wipeE env vs) (xs.drop i) st2 = some (ys, st') ∧ accD ++ ys = d,
        ⟨xs.length, by omega, Nat.zero_le _, _, c1, s1, [], [], d, x1.trans x2 R.wd, x2.sx W1 W2, (R1.ex x2 W2).wipe vs, .inr rfl, W1.cnone hp, upd_same, .nil, Nat.zero_le _, by rw [List.drop_zero]; exact q, rfl⟩, ?_⟩
      rintro i m H' ⟨rfl, hi, N', c', st2, accD, accV, ys, ex, sx, R', np, nc, hpv, ra, la, ql, ed⟩
      by_cases hlt : i < xs.length
      · have ed0 : xs.drop i = xs[i] :: xs.drop (i + 1) := List.drop_eq_getElem_cons hlt
        rw [ed0] at ql
        unfold compM at ql
        split at ql
        · rename_i hck
          refine .inr ⟨il.go i N' c' H' st2 hlt sx R'.wd hck, fun H3 => ∃ N' c' st2 accD accV ys, Ex N c H N' c' H3 ∧ Sx N1 c1 H1 N' c' H3 ∧ Rel mg E N' c' (wipeE env vs) st2 (L2.wipe σ vs) H3 ∧ N' p ∧ p ∉ c' ∧ H3 p = some (.lst accV) ∧ RepL mg N' c' H3 accV accD ∧ accD.length ≤ i + 1 ∧
            compM chk asg cond elt (wipeE env vs) (xs.drop (i + 1)) st2 = some (ys, st') ∧ accD ++ ys = d, fun H3 z => ⟨xs.length - (i + 1), by omega, rfl, hlt, z⟩, fun x H2 y => ?_⟩
          obtain ⟨d0, hd0, x3, W3, r3⟩ := il.yld i N' c' H' st2 x H2 hlt sx R'.wd hck y
          have ed2 : xs[i] = d0 := by
            obtain ⟨_, e⟩ := List.getElem?_eq_some_iff.mp hd0
            exact e
          rw [ed2] at ql
          split at ql
          · cases ql
          · rename_i e1 ha
            have R3 := R'.ex x3 W3
            refine hg E N' c' _ e1 st2 _ H2 x d0 _ R3 r3 ha fun σ4 R4 df => ⟨by rw [df vs hv]; exact wipe_idem fun _ z => z, ?_⟩
            split at ql
            · cases ql
            · rename_i sA qc
              refine ⟨E, N', c', e1, st2, false, sA, R4, qc, fun N5 c5 H5 x5 W5 => iteF ?_⟩
              have x35 := x3.trans x5 R'.wd
              exact ⟨N5, c5, sA, accD, accV, ys, ex.trans x35 R.wd, sx.trans (x35.sx R'.wd W5), R3.ex x5 W5, x5.mono p np, x35.nc R'.wd hpv nc, x35.keep p _ hpv nc, ra.tr (x35.tr R'.wd), Nat.le_succ_of_le la, ql, ed⟩
            · rename_i sA qc
              split at ql
              · cases ql
              · rename_i y1 sB qe
                split at ql
                · cases ql
                · rename_i ys1 s3 qr
                  cases ql
                  refine ⟨E, N', c', e1, st2, true, sA, R4, qc, fun N5 c5 H5 x5 W5 => iteT ?_⟩
                  refine ⟨E, N5, c5, e1, sA, y1, sB, R4.ex x5 W5, qe, fun w N6 c6 H6 x6 W6 r6 => ?_⟩
                  have x36 := (x3.trans x5 R'.wd).trans x6 R'.wd
                  have hp6 := x36.keep p _ hpv nc
                  have nc6 := x36.nc R'.wd hpv nc
                  have np6 := x36.mono p np
                  have ra6 := ra.tr (x36.tr R'.wd)
                  have ln := ra6.length
                  refine ⟨accV, hp6, sz7 (by omega), ?_⟩
                  have R6 : Rel mg E N6 c6 (wipeE env vs) sB (L2.wipe σ vs) H6 := R'.ex x36 W6
                  obtain ⟨Rg, sg⟩ := R6.grow (us := accV ++ [w]) np6 nc6 h0 ⟨_, hp6, by simp⟩ nw
                  have exT := ex.trans x36 R.wd
                  refine ⟨N6, c6, sB, accD ++ [y1], accV ++ [w], ys1, ⟨fun a o e n => ?_, exT.new, exT.mono, exT.pre, exT.newc⟩, (sx.trans (x36.sx R'.wd W6)).trans sg, Rg, np6, nc6, upd_same, (ra6.append (.cons r6 .nil)).tr sg.tr, by rw [List.length_append]; show accD.length + 1 ≤ i + 1; omega, qr, by rw [List.append_assoc]; exact ed⟩
                  rw [upd_ne (ne_of_none e hpH)]
                  exact exT.keep a o e n
        · cases ql
      · have e : i = xs.length := by omega
        subst e
        rw [List.drop_length] at ql
        unfold compM at ql
        split at ql
        · rename_i hck
          cases ql
          rw [List.append_nil] at ed
          subst ed
          exact .inl ⟨il.stop N' c' H' _ sx R'.wd hck, k _ N' c' H' ex R'.wd ⟨p, accV, rfl, hpH, np, nc, hpv, ra⟩⟩
        · cases ql
    · cases q
variable {X : Cx} {eltE tg iter : Expr} {ifs : List Expr} {scope : Scope} {own : List (Str × Nat)} {pos : Pos}
theorem pts_nilT : PTs X [] (tT mg bYes) := ⟨fun pins s σ H Q I h => (pts_nil (X := X)).run pins s σ H Q I (by
  obtain ⟨E, N, c, env, st, b, st', R, q, k⟩ := h
  cases q
  exact k N c H Ex.refl R.wd)⟩
theorem pts_oneT {c : Expr} {t : SB} (h : PT X c (tT mg t)) : PTs X [c] (tT mg t) := pts_one h
/-- [elt for target in iter if ..] -/
theorem d_lc (hc : X.calm = true) (hN : X.N.Nodup) (hi : PI X tg iter (tI mg fi)) (ok : BlkOk X.N X.env.scope scope own)
    (hgg : ∀ (s : Shared) (H : Hp) (C : Addr) (cl : List (Str × Addr)) (fp : List Addr), PG (X.blk s H scope (compEnvC scope cl C X.env) fp) tg g) (hg : GOk mg g asg is) (hv : ∀ i ∈ is, i ∈ own.map (·.2))
    (ht : ∀ (s : Shared) (H : Hp) (C : Addr) (cl : List (Str × Addr)) (fp : List Addr), PTs (X.blk s H scope (compEnvC scope cl C X.env) fp) ifs (tT mg cond))
    (he : ∀ (s : Shared) (H : Hp) (C : Addr) (cl : List (Str × Addr)) (fp : List Addr), PE (X.blk s H scope (compEnvC scope cl C X.env) fp) eltE (tE mg elt)) (hs : ∀ x, foldedSetIterable iter X.env x = pure x := by intro _; rfl) :
    PE X (.ListComp eltE [⟨tg, iter, ifs, 0⟩] scope pos) (tL mg (lComp fi asg cond elt (own.map (·.2)))) :=
  pe_weak (pe_lc hc hN hi ok hgg ht he hs) fun _ _ _ h => r_lc hg hv h
theorem s_lc {i : Nat} {y : Str} {py spos : Pos} (hc : X.calm = true) (hN : X.N.Nodup) (hy : X.N[i]? = some y) (hyl : X.env.scope.names.lookup y = some .local)
    (hsw : swapsWith (.ListComp eltE [⟨tg, iter, ifs, 0⟩] scope pos) (some (.Name y py)) spos.line X.env = pure true) (hi : PI X tg iter (tI mg fi)) (ok : BlkOk X.N X.env.scope scope own)
    (hgg : ∀ (s : Shared) (H : Hp) (C : Addr) (cl : List (Str × Addr)) (fp : List Addr), PG (X.blk s H scope (compEnvC scope cl C X.env) fp) tg g) (hg : GOk mg g asg is) (hv : ∀ i ∈ is, i ∈ own.map (·.2))
    (ht : ∀ (s : Shared) (H : Hp) (C : Addr) (cl : List (Str × Addr)) (fp : List Addr), PTs (X.blk s H scope (compEnvC scope cl C X.env) fp) ifs (tT mg cond))
    (he : ∀ (s : Shared) (H : Hp) (C : Addr) (cl : List (Str × Addr)) (fp : List Addr), PE (X.blk s H scope (compEnvC scope cl C X.env) fp) eltE (tE mg elt)) (hs : ∀ x, foldedSetIterable iter X.env x = pure x := by intro _; rfl) :
    PS X (.Assign [.Name y py] (.ListComp eltE [⟨tg, iter, ifs, 0⟩] scope pos) spos) (tS mg (sSet i (eL (lComp fi asg cond elt (own.map (·.2)))))) :=
  ps_weak (ps_setLc hc hN hy hyl hsw hi ok hgg ht he hs) fun De σ H h => by
    obtain ⟨E, N, c, env, st, o, st', R, q, p⟩ := tS_def.mp h
    refine r_lc (Q := fun x H1 => gName i x σ H1 De.nx) hg hv ?_
    unfold sSet eL at q
    cases qf : lComp fi asg cond elt (own.map (·.2)) env st with
    | none => rw [qf] at q; cases q
    | some z =>
      obtain ⟨xs, s1⟩ := z
      rw [qf] at q
      cases q
      refine ⟨E, N, c, env, st, xs, _, R, qf, fun v N' c' H' x W r => ?_⟩
      obtain ⟨N'', x2, W2, r2⟩ := r.give R.wd x W
      exact p N'' c' _ H' (x2.sx R.wd W2) ((R.ex x2 W2).set (s := .val _) rfl ⟨v, rfl, r2⟩)
end
end LW

/-! LwK: bodies of defs; cells handed back; fields of a new instance; two names at once. -/
namespace LW
open PySem L2 PyProof.Rows

/-! ### a def by its body -/
def env0 (m : Nat) (ds : List D) : Env := ds.map Sl.val ++ List.replicate (m - ds.length) .un
def fnM (n m : Nat) (body : SS) : FM := fun ds st => if ds.length = n then (match body (env0 m ds) st with
  | some (.rt d, s1) => some (d, s1)
  | some (.nx _, s1) => some (.non, s1)
  | _ => none) else none
theorem fnM_ar {n m : Nat} {body : SS} : Ar n (fnM n m body) := fun ds st r h => by
  unfold fnM at h
  split at h
  · rename_i e; exact e
  · cases h
section
variable {mg : Glob}
theorem rel0 {N : Prot} {c : List Addr} {H : Hp} {st : Sto} {nm : List Str} {vs : List V} {ds : List D} (W : Wd mg N c H st) (r : RepL mg N c H vs ds) : Rel mg ⟨H, N, c, none⟩ N c (env0 nm.length ds) st (L2.start nm vs) H where
  len := by
    unfold L2.start env0
    rw [List.length_append, List.length_append, List.length_map, List.length_map, List.length_replicate, List.length_replicate, r.length]
  sl := fun i s e => by
    unfold env0 at e
    by_cases hi : i < ds.length
    · rw [List.getElem?_append_left (by simpa using hi), List.getElem?_map, List.getElem?_eq_getElem hi] at e
      cases e
      obtain ⟨v, hv, rv⟩ := r.get (List.getElem?_eq_getElem hi)
      refine ⟨v, ?_, rv⟩
      unfold L2.start
      rw [List.getElem?_append_left (by rw [List.length_map, r.length]; exact hi), List.getElem?_map, hv]
      rfl
    · rw [List.getElem?_append_right (by simpa using hi), List.getElem?_replicate] at e
      split at e
      · cases e; trivial
      · cases e
  own := fun i s a e ho _ => by
    unfold env0 at e
    by_cases hi : i < ds.length
    · rw [List.getElem?_append_left (by simpa using hi), List.getElem?_map, List.getElem?_eq_getElem hi] at e
      cases e; cases ho
    · rw [List.getElem?_append_right (by simpa using hi), List.getElem?_replicate] at e
      split at e
      · cases e; cases ho
      · cases e
  inj := fun i j s s' a e ho _ _ _ _ => by
    unfold env0 at e
    by_cases hi : i < ds.length
    · rw [List.getElem?_append_left (by simpa using hi), List.getElem?_map, List.getElem?_eq_getElem hi] at e
      cases e; cases ho
    · rw [List.getElem?_append_right (by simpa using hi), List.getElem?_replicate] at e
      split at e
      · cases e; cases ho
      · cases e
  wd := W
  n0 := fun _ h => h
  t0 := fun a h => W.trk a h
  base := fun _ _ h _ => h
  pre := fun _ _ h => h
  newc := fun _ h => .inl h
  slf := fun i cn ns dd a e _ => by
    unfold env0 at e
    by_cases hi : i < ds.length
    · rw [List.getElem?_append_left (by simpa using hi), List.getElem?_map, List.getElem?_eq_getElem hi] at e
      cases e
    · rw [List.getElem?_append_right (by simpa using hi), List.getElem?_replicate] at e
      split at e
      · cases e
      · cases e
theorem Fin.ex {N : Prot} {c c' : List Addr} {H H' : Hp} {st st' : Sto} {v : V} {d : D} (W : Wd mg N c H st) (f : Fin mg ⟨H, N, c, none⟩ c' st' H' v d) : Ex N c H (fun a => N a ∨ a ∈ c') c' H' where
  keep := fun a o h n => by
    by_cases q : a ∈ c'
    · rcases f.newc a q with z | z
      · exact absurd z n
      · exact absurd (h.symm.trans z) (by simp)
    · exact f.base a o h q
  new := fun a z => z.elim .inl fun q => (f.newc a q).elim (fun w => .inl (W.cn a w)) .inr
  mono := fun _ h => .inl h
  pre := f.pre
  newc := f.newc
end
section
variable {P : Program} {w : World} {K : PySem.W.Frag} {mg : Str → Option Value} {base : Heap}
/-- THE RULE for a def: it reckons what its body reckons -/
theorem fn_M {x qual : Str} {st : Stmt} {f : Addr} {fd : FuncData} {nm ps : List Str} {k : Nat} {body : SS} (F : Fun K x qual st f fd) (S : FnScope nm ps (defScope st))
    (hbody : ∀ (cdv : Value) (A : Around) (outer : List PySem.Env) (s : Shared) (H : Hp) (E : XK), Room k (A.deeper (envOfC qual (defScope st) s.heap.objs.size f cdv)) →
      PSs (cxOf CX0 P w K mg base nm qual (defScope st) f cdv A outer s H E).nox (defBody st) (tS ⟨mg, K⟩ body)) :
    FnOk P w K mg base CX0 (k + 1) f fd ps (spM ⟨mg, K⟩ (fnM ps.length nm.length body) ps.length) := by
  refine F.ok S (fun vs H Q E h => h.1) fun cdv A outer s H vs Q E hr h => ⟨_, hbody cdv A outer s H E hr, ?_⟩
  obtain ⟨_, N, c, ds, st0, d, st', W, r, q, kk⟩ := h
  unfold fnM at q
  split at q
  · rename_i hl
    have R := rel0 (nm := nm) W r
    split at q
    · rename_i d1 s1 q1
      cases q
      exact tS_def.mpr ⟨_, N, c, _, st0, _, _, R, q1, fun c' H' v fn => kk v _ c' H' (fn.ex W) fn.wd fn.rep⟩
    · rename_i e1 s1 q1
      cases q
      exact tS_def.mpr ⟨_, N, c, _, st0, _, _, R, q1, fun N' c' σ' H' sx R' => kk .non _ c' H' ((R'.fin .non).ex W) (R'.fin .non).wd (.non)⟩
    · cases q
  · cases q
end

/-! ### a new list handed back as a cell -/
def sRetC (f : Fx (List D)) : SS := fun env st => match f env st with
  | some (xs, s1) => some (.rt (.cell s1.length), s1 ++ [xs])
  | none => none
section
variable {mg : Glob} {E : En} {N : Prot} {c : List Addr} {H : Hp} {st : Sto} {env : Env} {σ : L2.St} {p : Addr} {vs : List V} {xs : List D}
end
section
variable {mg : Glob} {X : Cx} {e : Expr} {pos : Pos} {fl : Fx (List D)}
/-- return x, x a list of the frame's own, as a cell -/
def sRetO (i : Nat) : SS := fun env st => match env[i]? with
  | some (.own xs) => some (.rt (.cell st.length), st ++ [xs])
  | _ => none
end

/-! ### the fields of a new instance -/
def putD (m : Str) (d : D) : List Str → List D → List Str × List D
  | n :: ns, v :: vs => if n = m then (n :: ns, d :: vs) else (n :: (putD m d ns vs).1, v :: (putD m d ns vs).2)
  | _, _ => ([m], [d])
theorem putD_ok {mg : Glob} {N : Prot} {c : List Addr} {H : Hp} {m : Str} {v : V} {d : D} (h : Rep mg N c H v d) : ∀ {fs : List (Str × V)} {ds : List D}, RepL mg N c H (fs.map (·.2)) ds → (putF m v fs).map (·.1) = (putD m d (fs.map (·.1)) ds).1 ∧ RepL mg N c H ((putF m v fs).map (·.2)) (putD m d (fs.map (·.1)) ds).2
  | [], [], _ => ⟨rfl, .cons h .nil⟩
  | [], _ :: _, r => by cases r
  | _ :: _, [], r => by cases r
  | (a, b) :: r, d0 :: ds, .cons h0 t => by
    obtain ⟨h1, h2⟩ := putD_ok h t
    show ((putF m v ((a, b) :: r)).map (·.1) = (if a = m then (a :: r.map (·.1), d :: ds) else (a :: (putD m d (r.map (·.1)) ds).1, d0 :: (putD m d (r.map (·.1)) ds).2)).1) ∧ RepL mg N c H ((putF m v ((a, b) :: r)).map (·.2)) (if a = m then (a :: r.map (·.1), d :: ds) else (a :: (putD m d (r.map (·.1)) ds).1, d0 :: (putD m d (r.map (·.1)) ds).2)).2
    by_cases e : a = m
    · subst e
      have ep : putF a v ((a, b) :: r) = (a, v) :: r := by
        unfold putF
        rw [if_pos rfl]
      rw [ep, if_pos rfl]
      exact ⟨rfl, .cons h t⟩
    · have ep : putF m v ((a, b) :: r) = (a, b) :: putF m v r := by
        rw [putF, if_neg e]
      rw [ep, if_neg e]
      refine ⟨?_, .cons h0 h2⟩
      rw [List.map_cons, h1]
def sFld (cn : Str) (i : Nat) (m : Str) (fe : SE) : SS := fun env st => match fe env st with
  | some (d, s1) => match env[i]? with
    | some (.ownI cn' ns vs) => if cn' = cn ∧ ns.length < 1000 then some (.nx (env.set i (.ownI cn' (putD m d ns vs).1 (putD m d ns vs).2)), s1) else none
    | _ => none
  | none => none
section
variable {mg : Glob} {N N' : Prot} {c c' : List Addr} {H H' : Hp} {st st' : Sto} {E : En} {env : Env} {σ : L2.St}
/-- the frame's own instance changes -/
theorem Rel.writeI {i : Nat} {a C dx : Addr} {cn : Str} {ns ns' : List Str} {ds ds' : List D} {fs' : List (Str × V)} (R : Rel mg E N c env st σ H) (he : env[i]? = some (.ownI cn ns ds)) (hs : σ[i]? = some (some (.ref a))) (hC : mg.mg cn = some (.ref C)) (hn : fs'.map (·.1) = ns') (r : RepL mg N c H (fs'.map (·.2)) ds') :
    Rel mg E N c (env.set i (.ownI cn ns' ds')) st σ (upd H a (.ins C dx fs')) ∧ Sx N c H N c (upd H a (.ins C dx fs')) := by
  obtain ⟨na, nc, n0⟩ := R.own i _ a he rfl hs
  have keep : ∀ b o, H b = some o → ¬ N b → (upd H a (.ins C dx fs')) b = some o := fun b o e n => by
    rw [upd_ne (show b ≠ a from fun z => n (z ▸ na))]; exact e
  have tk : ∀ b, (upd H a (.ins C dx fs')) b = none → H b = none := fun b e => by
    by_cases q : b = a
    · rw [q, upd_same] at e; cases e
    · rw [upd_ne q] at e; exact e
  have sx : Sx N c H N c (upd H a (.ins C dx fs')) := ⟨keep, fun _ z => .inl z, fun _ _ z => z, fun _ z => .inl z, tk, fun b us e => by rw [upd_ne (fun z => R.ownNT he rfl hs us (by rw [← z]; exact e))]; exact e⟩
  have ne_of_own : ∀ (j : Nat) s b, i ≠ j → env[j]? = some s → s.isOwn = true → σ[j]? = some (some (.ref b)) → b ≠ a := fun j s b ne e ho z q => by
    subst q
    exact ne (R.inj i j _ s b he rfl e ho hs z)
  refine ⟨⟨by rw [List.length_set]; exact R.len, fun j s' e => ?_, fun j s' b e ho es => ?_, fun j k s1 s2 b e1 o1 e2 o2 h1 h2 => ?_, ?_, R.n0, R.t0, fun b o e n => ?_, R.pre, R.newc, fun j cn' ns1 ds1 b e es => (get_set e).elim (fun z => by
    obtain ⟨rfl, _⟩ := z
    exact R.slf _ cn ns ds b he es) fun z => R.slf j cn' ns1 ds1 b z.2 es⟩, sx⟩
  · rcases get_set e with ⟨rfl, rfl⟩ | ⟨ne, e⟩
    · rw [hs]
      exact ⟨a, C, dx, fs', rfl, hC, upd_same, hn, r.tr sx.tr⟩
    · have q := R.sl j s' e
      cases s' with
      | un => trivial
      | val d => obtain ⟨v, ev, rv⟩ := q; exact ⟨v, ev, rv.tr sx.tr⟩
      | own ys => obtain ⟨b, us', ev, hb', rv⟩ := q; exact ⟨b, us', ev, by rw [upd_ne (ne_of_own j _ b ne e rfl (join_some ev))]; exact hb', rv.tr sx.tr⟩
      | ownI cn ns ds => obtain ⟨b, C, dx, fs, ev, hc, hb', hn, rv⟩ := q; exact ⟨b, C, dx, fs, ev, hc, by rw [upd_ne (ne_of_own j _ b ne e rfl (join_some ev))]; exact hb', hn, rv.tr sx.tr⟩
      | ownD ks ds => obtain ⟨b, kvs, ev, hb', hn, rv⟩ := q; exact ⟨b, kvs, ev, by rw [upd_ne (ne_of_own j _ b ne e rfl (join_some ev))]; exact hb', hn, rv.tr sx.tr⟩
      | ownT ks ds => obtain ⟨b, kvs, ev, hb', hn, rv⟩ := q; exact ⟨b, kvs, ev, by rw [upd_ne (ne_of_own j _ b ne e rfl (join_some ev))]; exact hb', hn, rv.tr sx.tr⟩
  · rcases get_set e with ⟨rfl, rfl⟩ | ⟨ne, e⟩
    · rw [hs] at es; cases es; exact ⟨na, nc, n0⟩
    · exact R.own j s' b e ho es
  · rcases get_set e1 with ⟨rfl, rfl⟩ | ⟨n1, e1⟩
    · rcases get_set e2 with ⟨rfl, rfl⟩ | ⟨n2, e2⟩
      · rfl
      · exact R.inj _ k _ s2 b he rfl e2 o2 h1 h2
    · rcases get_set e2 with ⟨rfl, rfl⟩ | ⟨n2, e2⟩
      · exact R.inj j _ s1 _ b e1 o1 he rfl h1 h2
      · exact R.inj j k s1 s2 b e1 o1 e2 o2 h1 h2
  · exact ⟨R.wd.len, fun k b ys h1 h2 => by
      obtain ⟨us', hb', rr⟩ := R.wd.sto k b ys h1 h2
      exact ⟨us', by rw [upd_ne (show b ≠ a from fun z => nc (z ▸ List.mem_of_getElem? h1))]; exact hb', rr.tr sx.tr⟩, R.wd.cn, R.wd.nd, fun b z e => R.wd.trk b z (tk b e)⟩
  · have : b ≠ a := fun z => by rw [z, n0] at e; cases e
    rw [upd_ne this]
    exact R.base b o e n
end
section
variable {mg : Glob} {X : Cx} {e : Expr} {pos apos : Pos} {fe : SE} {m : Str} {C : Addr} {cn : Str}
/-- self.m = e, self the frame's own new instance of the class cn -/
theorem s_fld {i : Nat} {x : Str} {p1 : Pos} (hC : mg.mg cn = some (.ref C)) (cl : Cls X.K C) (hna : NoAttr X.K C m) (he : PE X e (tE mg fe)) (hN : X.N[i]? = some x := by rfl) (hv : Vis X.env.scope x := by first | exact Or.inl rfl | exact Or.inr (Or.inl rfl) | exact Or.inr (Or.inr rfl)) (hd : (x == ("__debug__" : Str)) = false := by decide)
    (hcd : (x == ("__classdict__" : Str)) = false := by decide) (hs : swapsWith e (some (.Attribute (.Name x p1) m apos)) pos.line X.env = pure false := by rfl) :
    PS X (.Assign [.Attribute (.Name x p1) m apos] e pos) (tS mg (sFld cn i m fe)) :=
  ps_weak (ps_fld (pe_var hN hv hd hcd) he hs) fun De σ H h => by
    obtain ⟨E, N, c, env, st, o, st', R, q, p⟩ := tS_def.mp h
    unfold sFld at q
    split at q
    · rename_i d s1 q1
      split at q
      · rename_i cn' ns vs hx
        split at q
        · rename_i hl
          obtain ⟨rfl, hl⟩ := hl
          cases q
          refine ⟨E, N, c, env, st, d, _, R, q1, fun v N1 c1 H1 x1 W1 r1 => ?_⟩
          have R1 := R.ex x1 W1
          obtain ⟨a, C', dx, fs, ea, hc, ha, hn, rr⟩ := R1.sl i _ hx
          have ea := join_some ea
          rw [hC] at hc
          cases hc
          subst hn
          obtain ⟨h1, h2⟩ := putD_ok (m := m) r1 rr
          have wr := R1.writeI (dx := dx) hx ea hC h1 h2
          exact ⟨.ref a, ea, a, C, dx, fs, rfl, ha, cl, hna, by simpa using hl, p N1 c1 σ _ ((x1.sx R.wd W1).trans wr.2) wr.1⟩
        · cases q
      · cases q
    · cases q
end
/-- the body of an __init__ -/
def fldsOf (cn : Str) : Option Sl → Option (List Str × List D)
  | some (.ownI cn' ns vs) => if cn' = cn then some (ns, vs) else none
  | _ => none
theorem fldsOf_ok {cn : Str} {o : Option Sl} {ns : List Str} {vs : List D} (h : fldsOf cn o = some (ns, vs)) : o = some (.ownI cn ns vs) := by
  unfold fldsOf at h
  split at h
  · split at h
    · rename_i e
      cases h
      rw [e]
    · cases h
  · cases h
theorem env0_noOwn {m : Nat} {ds : List D} {i : Nat} {s : Sl} (e : (env0 m ds)[i]? = some s) : s.isOwn = false := by
  unfold env0 at e
  by_cases hi : i < ds.length
  · rw [List.getElem?_append_left (by simpa using hi), List.getElem?_map, List.getElem?_eq_getElem hi] at e
    cases e; rfl
  · rw [List.getElem?_append_right (by simpa using hi), List.getElem?_replicate] at e
    split at e
    · cases e; rfl
    · cases e
def initM (cn : Str) (n m : Nat) (body : SS) : FI := fun ds st => if ds.length = n then (match body (.ownI cn [] [] :: env0 (m - 1) ds) st with
  | some (.nx e, s1) => match fldsOf cn (e[0]?) with
    | some p => some (p, s1)
    | none => none
  | _ => none) else none
theorem initM_ar {cn : Str} {n m : Nat} {body : SS} : ArI n (initM cn n m body) := fun ds st r h => by
  unfold initM at h
  split at h
  · rename_i e; exact e
  · cases h
section
variable {P : Program} {w : World} {K : PySem.W.Frag} {mg : Str → Option Value} {base : Heap}
theorem fn_I {cn x qual : Str} {st : Stmt} {f : Addr} {fd : FuncData} {nm ps : List Str} {k n : Nat} {body : SS} (F : Fun K x qual st f fd) (S : FnScope nm ps (defScope st)) (hn : ps.length = n + 1) (hm : nm.length = nm.length - 1 + 1)
    (hbody : ∀ (cdv : Value) (A : Around) (outer : List PySem.Env) (s : Shared) (H : Hp) (E : XK), Room k (A.deeper (envOfC qual (defScope st) s.heap.objs.size f cdv)) →
      PSs (cxOf CX0 P w K mg base nm qual (defScope st) f cdv A outer s H E).nox (defBody st) (tS ⟨mg, K⟩ body)) :
    FnOk P w K mg base CX0 (k + 1) f fd ps (spI ⟨mg, K⟩ cn (initM cn n nm.length body) n) := by
  refine F.ok S (fun vs H Q E h => by rw [h.1, hn]) fun cdv A outer s H vs Q E hr h => ⟨_, hbody cdv A outer s H E hr, ?_⟩
  obtain ⟨_, N, c, z, dz, C, us, ds, st0, ns, fds, st', rfl, hC, hz, nz, ncz, W, r, q, kk⟩ := h
  unfold initM at q
  split at q
  · rename_i hl
    split at q
    · rename_i e1 s1 q1
      split at q
      · rename_i pr hf
        cases q
        -- the entry: as if the instance were not there
        have hs : L2.start nm (.ref z :: us) = some (.ref z) :: (us.map some ++ List.replicate (nm.length - 1 - us.length) none) := by
          unfold L2.start
          rw [List.map_cons, List.length_cons, List.cons_append]
          congr 2
          congr 1
          omega
        have R0 := rel0 (nm := List.replicate (nm.length - 1) ("" : Str)) W r
        have e0 : env0 (nm.length - 1) ds = env0 (List.replicate (nm.length - 1) ("" : Str)).length ds := by rw [List.length_replicate]
        have s0 : (us.map some ++ List.replicate (nm.length - 1 - us.length) none : L2.St) = L2.start (List.replicate (nm.length - 1) ("" : Str)) us := by
          unfold L2.start
          rw [List.length_replicate]
        have R : Rel ⟨mg, K⟩ ⟨fun a => if a = z then none else H a, fun a => N a ∧ a ≠ z, c, some z⟩ N c (.ownI cn [] [] :: env0 (nm.length - 1) ds) st0 (L2.start nm (.ref z :: us)) H := by
          rw [hs, e0, s0]
          refine ⟨by rw [List.length_cons, List.length_cons, R0.len], fun i s e => ?_, fun i s a e ho es => ?_, fun i j s s' a e1 o1 e2 o2 h1 h2 => ?_, W, fun a h => h.1, fun a h e => ?_, fun a o e nc => ?_, fun _ _ h => h, fun _ h => .inl h, fun i cn' ns' ds' a e es => ?_⟩
          · cases i with
            | zero => cases e; exact ⟨z, C, dz, [], rfl, hC, hz, rfl, .nil⟩
            | succ i => exact R0.sl i s e
          · cases i with
            | zero => cases es; exact ⟨nz, ncz, if_pos rfl⟩
            | succ i => rw [env0_noOwn e] at ho; cases ho
          · cases i with
            | zero =>
              cases j with
              | zero => rfl
              | succ j => rw [env0_noOwn e2] at o2; cases o2
            | succ i => rw [env0_noOwn e1] at o1; cases o1
          · exact W.trk a h.1 ((if_neg h.2).symm.trans e)
          · by_cases q : a = z
            · exact absurd ((if_pos q).symm.trans e) (by simp)
            · exact (if_neg q).symm.trans e
          · cases i with
            | zero => cases es; rfl
            | succ i =>
              have := env0_noOwn e
              cases this
        refine tS_def.mpr ⟨_, N, c, _, st0, .nx e1, _, R, q1, fun N' c' σ' H' sx R' => ?_⟩
        have he := fldsOf_ok hf
        obtain ⟨a, C', dx', fs', ea, hc, ha, hnm, rr⟩ := R'.sl 0 _ he
        have ea := join_some ea
        have ez : some z = some a := R'.slf 0 _ _ _ a he ea
        cases ez
        obtain ⟨nz', ncz', _⟩ := R'.own 0 _ z he rfl ea
        have ec : C' = C := by
          have := hc.symm.trans hC
          cases this; rfl
        subst ec
        refine kk N' c' H' dx' fs' (fun b o hb nb ne => ?_) sx.new (fun b hb => ?_) R'.pre (fun b hb => ?_) R'.wd ha hnm rr
        · have h0 : (fun a => if a = z then none else H a : Hp) b = some o := (if_neg ne).trans hb
          refine R'.base b o h0 fun q => ?_
          rcases R'.newc b q with q | q
          · exact nb q
          · exact absurd (h0.symm.trans q) (by simp)
        · by_cases q : b = z
          · rw [q]; exact nz'
          · exact R'.n0 b ⟨hb, q⟩
        · rcases R'.newc b hb with q | q
          · exact .inl q
          · by_cases q2 : b = z
            · exact absurd (q2 ▸ hb) ncz'
            · exact .inr ((if_neg q2).symm.trans q)
      · cases q
    · cases q
  · cases q
end
end LW

/-! LwL: == and != by an own __eq__; two names at once. -/
namespace LW
open PySem L2 PyProof.Rows

/-! ### == and != of own instances -/
section
variable {prog : Program} {w : World} {A : Around} {E : Value → Shared → Prop} {s : Shared} {K : PySem.W.Frag} {x C f : Addr} {ox : Obj} {od : Option Obj} {b tb : Value}
open PySem.W in
/-- x != b where the class has object's __ne__ and an own __eq__ -/
theorem cmpNe_K {Q : Value → Shared → Prop} (hu : A.units + 1 < cLine) (X : K.In s.heap) (I : InstAt s.heap x ox C od) (hb : Looks (model prog w) s.heap (typeOf b) tb) (hn : notFirst K C tb = true)
    (hne : findIn K (.ref C) "__ne__" = some (some (.builtin "object.__ne__"))) (hob : mroIn K C (.type "object") = some true)
    (hs : findIn K (.ref C) "__eq__" = some (some (.ref f))) (hf : isFn K (.ref f) = true)
    (h : wpAny (model prog w) A.in1 (call (.ref f) [.ref x, b]) (fun v s' => ∃ r, v = .bool r ∧ Q (.bool (!r)) s') E s) : wpAny (model prog w) A (richCompare .NotEq (.ref x) b) Q E s := by
  have sub : Looks (model prog w) s.heap (isInstance (.ref x) (.type "object")) true := I.type.andThen (looks_mroIn X hob)
  have body : wpAny (model prog w) A.in1 (Builtin.«object.__ne__» ⟨[.ref x, b], []⟩) (fun fin s' => ∃ r, fin = .done (.ret (.bool r)) ∧ Q (.bool r) s') E s := by
    unfold Builtin.«object.__ne__»
    repeat (first
      | with_reducible refine wpAny_cRoomFor hu ?_
      | (refine wpAny_bind (m := callSpecialIfBound? (.ref x) (Str.ofString "__eq__") [b])
          (ifBound_K X I hs hf (wpAny_mono h (fun r s' hr => by
            obtain ⟨q, rfl, hq⟩ := hr
            repeat (first | exact ⟨_, rfl, hq⟩ | exact wpAny_pure ⟨_, rfl, hq⟩ | exact wpAny_truthy_bool ⟨_, rfl, hq⟩ | (refine wpAny_bind (m := truthy (.bool _)) (wpAny_truthy_bool ?_)) | wp_step)) fun _ _ e => e)))
      | wp_step)
  have one : wpAny (model prog w) A (tryCompare (.ref x) "__ne__" b) (fun r s' => ∃ v, r = some v ∧ Q v s') E s := by
    unfold tryCompare
    refine wpAny_bind ?_
    simp only [callSpecialIfBound?, bindSpecialIfBound?]
    refine wpAny_holding (wpAny_bind (wpAny_bind (wpAny_bind (I.type.here ((looks_findIn X hne).here ?_)))))
    have callB : wpAny (model prog w) A (call (.builtin "object.__ne__") ([.ref x] ++ [b])) (fun v s' => ∃ r, v = .bool r ∧ Q (.bool r) s') E s := by
      refine wpAny_call (codeAny_call_builtin PySem.F.cmp_object.ne.plain PySem.F.cmpEntry_ne (check_slot PySem.F.cmpKind_ne PySem.F.cmpSplit_ne sub (PySem.F.cmpArgs_ne _ _) (wpAny_mono body (fun fin s' hq => ?_) fun _ _ e => e)))
      obtain ⟨r, rfl, hq⟩ := hq
      exact ⟨r, rfl, hq⟩
    have fin : wpAny (model prog w) A (call (.builtin "object.__ne__") ([.ref x] ++ [b]) >>= fun v => pure (some v)) (fun r s' => wpAny (model prog w) A (match r with | some .notImplemented => pure none | none => pure none | some v => pure (some v)) (fun r s' => ∃ v, r = some v ∧ Q v s') E s') E s :=
      wpAny_bind (wpAny_mono callB (fun v s' h' => by
        obtain ⟨r, rfl, hq⟩ := h'
        exact wpAny_pure (wpAny_pure ⟨_, rfl, hq⟩)) fun _ _ e => e)
    refine wpAny_bind (wpAny_askSetting (wpAny_ite ?_))
    split
    · rw [PySem.F.cmp_object.ne.bind]
      exact wpAny_bind (wpAny_pure (wpAny_pure (by exact fin)))
    · rw [PySem.F.cmp_object.ne.bind]
      exact wpAny_tryCatch (wpAny_bind (wpAny_pure (wpAny_pure (by exact fin))))
  unfold richCompare
  simp only [oneThing_ref]
  refine wpAny_holding (wpAny_bind (wpAny_cRoomFor (Nat.lt_of_succ_lt hu) ?_))
  refine wpAny_bind (I.type.here (wpAny_bind (hb.here ?_)))
  split
  · rename_i q
    have e : subIn K tb (.ref C) = some false := by
      rcases Bool.or_eq_true_iff.mp hn with e | e
      · rw [beq_iff_eq.mp e] at q; simp at q
      · exact beq_iff_eq.mp e
    refine wpAny_bind ((looks_subIn X e).here ?_)
    simp only [Bool.false_eq_true, if_false]
    refine wpAny_bind (wpAny_mono one (fun r s' z => ?_) fun _ _ e => e)
    obtain ⟨v, rfl, hq⟩ := z
    exact wpAny_pure hq
  · refine wpAny_bind (wpAny_pure ?_)
    simp only [Bool.false_eq_true, if_false]
    refine wpAny_bind (wpAny_mono one (fun r s' z => ?_) fun _ _ e => e)
    obtain ⟨v, rfl, hq⟩ := z
    exact wpAny_pure hq
end
/-- x == y, x != y where the class C of x has an own __eq__ with the promise sp -/
def rOwn (K : PySem.W.Frag) (C : Addr) (sp : Sp) (neg : Bool) : R2 := fun x y H Q => ∃ a dx fs t, x = .ref a ∧ H a = some (.ins C dx fs) ∧ TyX K H y t ∧ PySem.W.notFirst K C t = true ∧ sp [x, y] H (fun v H' => ∃ b, v = .bl b ∧ Q (.bl (if neg then !b else b)) H') E0
section
variable {X : Cx} {k : Nat} {f C : Addr} {fd : FuncData} {ps : List Str} {sp : Sp}
theorem op_neO (F : FnOk X.prog X.w X.K X.mg X.base CX0 k f fd ps sp) (hr : Room (k + 1) X.A) (hne : PySem.W.findIn X.K (.ref C) "__ne__" = some (some (.builtin "object.__ne__"))) (hob : PySem.W.mroIn X.K C (.type "object") = some true)
    (hs : PySem.W.findIn X.K (.ref C) "__eq__" = some (some (.ref f))) (hf : PySem.W.isFn X.K (.ref f) = true) (hb : Binds X.K fd ps []) : OpR X (compareOp .NotEq) (rOwn X.K C sp true) := by
  intro pins s σ H x y v u Q I rx ry hq
  obtain ⟨a, dx, fs, t, rfl, ha, ty, nf, q⟩ := hq
  obtain rfl : v = Value.ref a := rx
  obtain ⟨mA, J, _⟩ := ins_get I.hok ha
  obtain ⟨od, J, _⟩ := J.look
  obtain ⟨P, Z, p, _⟩ := kit_of I ry ty
  show wpAny (model X.prog X.w) X.A (richCompare .NotEq (.ref a) u) (EP X pins σ Q) X.xe s
  refine cmpNe_K (by have := hr.units; omega) I.kIn J (Z.ty _ _ I.kIn p) nf hne hob hs hf ?_
  have r2 : Vals [V.ref a, y] [Value.ref a, u] := .cons rfl (.cons ry .nil)
  have hl : ([Value.ref a, u] : List Value).length = ps.length := by
    have e := F.len _ _ _ _ q
    exact e
  refine wpAny_call (codeAny_mono (F.run X.A.in1 X.stack s H ⟨[.ref a, u], []⟩ [.ref a, u] [.ref a, y] _ E0 hr.in1 I.env0.in1 (by
    have z := hb s [.ref a, u] I.kIn (by rw [List.append_nil]; exact hl)
    rw [List.append_nil] at z
    exact z) r2 q) fun r s' hq => ?_)
  cases r with
  | error e => exact hq.elim
  | ok fl =>
    cases fl with
    | ret w =>
      obtain ⟨z, H', I', rz, b, rfl, qz⟩ := I.after hq
      obtain rfl : w = Value.bool b := rz
      exact ⟨b, rfl, .bl (!b), H', I', rfl, qz⟩
    | next => exact False.elim hq
    | brk => exact False.elim hq
    | cont => exact False.elim hq
end
/-- a value whose class is known -/
def okTy (st : Sto) (cs : List Str) (y : D) : Bool := match ty7 st y with
  | some _ => true
  | none => match y with
    | .obj n _ _ => decide (n ∈ cs)
    | _ => false
/-- x == y by data -/
def eOwn (cn : Str) (cs : List Str) (neg : Bool) (g : FM) (fa fb : SE) : SE := fun env st => match fa env st with
  | some (.obj cn' ns vs, s1) => if cn' = cn then (match fb env s1 with
    | none => none
    | some (y, s2) => if okTy s2 cs y = true then (match g [.obj cn' ns vs, y] s2 with
      | some (.bl b, s3) => some (.bl (if neg then !b else b), s3)
      | _ => none) else none) else none
  | _ => none
section
variable {mg : Glob} {X : Cx} {k : Nat} {f C : Addr} {fd : FuncData} {ps : List Str} {g : FM} {cn : Str} {cs : List Str} {a b : Expr} {pos : Pos} {fa fb : SE}
/-- the other's class is not asked first -/
structure NotF (mg : Glob) (cs : List Str) (C : Addr) : Prop where
  own : ∀ n C', n ∈ cs → mg.mg n = some (.ref C') → PySem.W.notFirst mg.K C (.ref C') = true
  blt : ∀ t : Ty7, PySem.W.notFirst mg.K C (.type t.name) = true
theorem r_own2 {neg : Bool} (hC : mg.mg cn = some (.ref C)) (T : Isi mg cs) (nf : NotF mg cs C) (har : Ar 2 g) {σ : L2.St} {H : Hp} {Q : VK} (h : tE mg (eOwn cn cs neg g fa fb) σ H Q) : tOp (rOwn mg.K C (spM mg g 2) neg) (tE mg fa) (tE mg fb) σ H Q := by
  obtain ⟨E0, N, c, env, st, d, st', R, q, kk⟩ := h
  unfold eOwn at q
  split at q
  · rename_i cn' ns vs s1 q1
    split at q
    · rename_i hcn
      subst hcn
      split at q
      · cases q
      · rename_i y s2 q2
        split at q
        · rename_i hty
          split at q
          · rename_i b s3 q3
            cases q
            refine ⟨E0, N, c, env, st, _, s1, R, q1, fun v N1 c1 H1 x1 W1 r1 => ?_⟩
            refine ⟨E0, N1, c1, env, s1, y, s2, R.ex x1 W1, q2, fun u N2 c2 H2 x2 W2 r2 => ?_⟩
            have r1' := Rep.tr (x2.tr W1) r1
            obtain ⟨a, C', dx, fs', rfl, hc, ha, hn, rr⟩ := RepT.obj (.inl r1')
            rw [hC] at hc
            cases hc
            have tyy : ∃ t, TyX mg.K H2 u t ∧ PySem.W.notFirst mg.K C t = true := by
              cases e7 : ty7 _ y with
              | some t => exact ⟨_, ty7_of W2 (.inl r2) e7, nf.blt t⟩
              | none =>
                unfold okTy at hty
                rw [e7] at hty
                dsimp only at hty
                split at hty
                · rename_i n ns' vs'
                  have hm := of_decide_eq_true hty
                  obtain ⟨b, C', dx', fs'', rfl, hc', hb, _, _⟩ := RepT.obj (.inl r2)
                  have cf := T.cf _ C' hm hc'
                  exact ⟨_, .base (.ins hb cf.cl cf.ha cf.hn cf.htk cf.hm), nf.own _ C' hm hc'⟩
                · cases hty
            obtain ⟨t, t1, t2⟩ := tyy
            refine ⟨a, dx, fs', t, rfl, ha, t1, t2, rfl, N2, c2, _, s2, _, _, W2, .cons r1' (.cons r2 .nil), q3, fun w N3 c3 H3 x3 W3 r3 => ?_⟩
            refine ⟨b, RepT.bl (.inl r3), ?_⟩
            exact kk _ N3 c3 H3 ((x1.trans x2 R.wd).trans x3 R.wd) W3 (.bl _)
          · cases q
        · cases q
    · cases q
  · cases q
theorem d_neO (ha : PE X a (tE mg fa)) (hb' : PE X b (tE mg fb)) (hC : mg.mg cn = some (.ref C)) (T : Isi mg cs) (nf : NotF mg cs C) (F : FnOk X.prog X.w X.K X.mg X.base CX0 k f fd ps (spM mg g 2)) (har : Ar 2 g) (hr : Room (k + 1) X.A) (hne : PySem.W.findIn X.K (.ref C) "__ne__" = some (some (.builtin "object.__ne__"))) (hob : PySem.W.mroIn X.K C (.type "object") = some true)
    (hs : PySem.W.findIn X.K (.ref C) "__eq__" = some (some (.ref f))) (hf : PySem.W.isFn X.K (.ref f) = true) (hb : Binds X.K fd ps []) (hK : X.K = mg.K := by rfl) : PE X (.Compare a [.NotEq] [b] pos) (tE mg (eOwn cn cs true g fa fb)) :=
  pe_weak (pe_cmpR (op_neO F hr hne hob hs hf hb) ha hb' (nomark _)) fun _ _ _ h => hK ▸ r_own2 hC T nf har h
end

/-! ### two names at once -/
/-- what a value may become: data, or a list of the frame's own -/
inductive Kd where
  | val (f : SE) | own (f : Fx (List D))
def Kd.run : Kd → Fx Sl
  | .val f => fun env st => match f env st with
    | some (d, s1) => some (.val d, s1)
    | none => none
  | .own f => fun env st => match f env st with
    | some (xs, s1) => some (.own xs, s1)
    | none => none
def sPar (i j : Nat) (a b : Kd) : SS := fun env st => match a.run env st with
  | some (x, s1) => match b.run env s1 with
    | some (y, s2) => if i = j then none else some (.nx ((env.set i x).set j y), s2)
    | none => none
  | none => none
/-- a reading that gives a slot's content -/
def RK (mg : Glob) : Told Sl := fun _ _ H N' c' H' v s => match s with
  | .val d => Rep mg N' c' H' v d
  | .own xs => ∃ p vs, v = .ref p ∧ H p = none ∧ N' p ∧ p ∉ c' ∧ H' p = some (.lst vs) ∧ RepL mg N' c' H' vs xs
  | _ => False
section
variable {mg : Glob} {X : Cx} {e a b : Expr} {pos : Pos} {fe : SE} {fl : Fx (List D)}
theorem k_val (h : PE X e (tE mg fe)) : PE X e (tX mg (RK mg) (Kd.run (.val fe))) := pe_weak h fun σ H Q ⟨E, N, c, env, st, d, st', R, q, k⟩ => by
  unfold Kd.run at q
  dsimp only at q
  split at q
  · rename_i d0 s1 q1
    cases q
    exact ⟨E, N, c, env, st, d0, _, R, q1, fun v N' c' H' x W r => k v N' c' H' x W r⟩
  · cases q
theorem k_own (h : PE X e (tL mg fl)) : PE X e (tX mg (RK mg) (Kd.run (.own fl))) := pe_weak h fun σ H Q ⟨E, N, c, env, st, d, st', R, q, k⟩ => by
  unfold Kd.run at q
  dsimp only at q
  split at q
  · rename_i d0 s1 q1
    cases q
    exact ⟨E, N, c, env, st, d0, _, R, q1, fun v N' c' H' x W r => k v N' c' H' x W r⟩
  · cases q
/-- a slot is set to what such a reading gave, some steps behind -/
theorem Rel.setK {E : En} {N N1 N2 : Prot} {c c1 c2 : List Addr} {H H1 H2 : Hp} {st st1 st2 : Sto} {env env' : Env} {σ σ' : L2.St} {i : Nat} {v : V} {s : Sl} (R : Rel mg E N c env st σ H) (W1 : Wd mg N1 c1 H1 st1) (x2 : Ex N1 c1 H1 N2 c2 H2) (R2 : Rel mg E N2 c2 env' st2 σ' H2)
    (r : RK mg N c H N1 c1 H1 v s) (hw : ∀ p, H p = none → ∀ (j : Nat) s, env'[j]? = some s → s.isOwn = true → σ'[j]? ≠ some (some (.ref p))) : Rel mg E N2 c2 (env'.set i s) st2 (σ'.set i (some v)) H2 := by
  cases s with
  | un => exact r.elim
  | val d => exact R2.set (s := .val d) rfl ⟨v, rfl, Rep.tr (x2.tr W1) (show Rep mg N1 c1 H1 v d from r)⟩
  | own xs =>
    obtain ⟨p, vs, rfl, hp, np, nc, hv, rr⟩ := r
    exact R2.setOwn (x2.keep p _ hv nc) (x2.mono p np) (x2.nc W1 hv nc) (R.fresh0 hp) (rr.tr (x2.tr W1)) (hw p hp)
  | ownI cn ns ds => exact r.elim
  | ownD ks ds => exact r.elim
  | ownT ks ds => exact r.elim
/-- a, b = x, y -/
theorem s_par {i j : Nat} {x y : Str} {ka kb : Kd} {px py pt : Pos} {kt k2 pt2} (hN : X.N.Nodup) (ha : PE X a (tX mg (RK mg) ka.run)) (hb : PE X b (tX mg (RK mg) kb.run)) (hc : X.calm = true := by rfl) (hi : X.N[i]? = some x := by rfl) (hj : X.N[j]? = some y := by rfl) (hij : i ≠ j := by decide)
    (hx : X.env.scope.names.lookup x = some .local := by rfl) (hy : X.env.scope.names.lookup y = some .local := by rfl)
    (hw : swappedStores [.Tuple [.Name x px, .Name y py] kt pt] (.Tuple [a, b] k2 pt2) X.env = pure (some [x, y]) := by rfl)
    (hs : swapsWithSole [.Tuple [.Name x px, .Name y py] kt pt] (.Tuple [a, b] k2 pt2) pos.line X.env = pure false := by rfl)
    (h1 : starEach [a, b] X.env = (false, eval a X.env) :: starEach [b] X.env := by rfl) (h2 : starEach [b] X.env = (false, eval b X.env) :: starEach [] X.env := by rfl) :
    PS X (.Assign [.Tuple [.Name x px, .Name y py] kt pt] (.Tuple [a, b] k2 pt2) pos) (tS mg (sPar i j ka kb)) :=
  ps_weak (ps_par hc hN hi hj hij hx hy (pa_cons ha (pa_cons hb pa_nil h2) h1) hw hs) fun De σ H h => by
    obtain ⟨E, N, c, env, st, o, st', R, q, p⟩ := tS_def.mp h
    unfold sPar at q
    split at q
    · rename_i s1 st1 q1
      split at q
      · rename_i s2 st2 q2
        split at q
        · cases q
        · cases q
          refine ⟨E, N, c, env, st, s1, st1, R, q1, fun v N1 c1 H1 x1 W1 r1 => ?_⟩
          refine ⟨E, N1, c1, env, st1, s2, _, R.ex x1 W1, q2, fun u N2 c2 H2 x2 W2 r2 => ?_⟩
          refine ⟨v, u, rfl, ?_⟩
          have x12 := x1.trans x2 R.wd
          have R2 := R.ex x12 W2
          have nw1 : ∀ p, H p = none → ∀ (j : Nat) s, env[j]? = some s → s.isOwn = true → σ[j]? ≠ some (some (.ref p)) := fun p hp => R.notOwn hp
          have Ra := Rel.setK (i := i) R W1 x2 R2 r1 nw1
          have R1 := R.ex x1 W1
          have nw2 : ∀ p, H1 p = none → ∀ (m : Nat) s, (env.set i s1)[m]? = some s → s.isOwn = true → (σ.set i (some v))[m]? ≠ some (some (.ref p)) := fun p hp m s e ho z => by
            rcases get_set e with ⟨rfl, rfl⟩ | ⟨ne, e⟩
            · have hl : i < σ.length := by
                rw [R.len]
                have := (List.getElem?_eq_some_iff.mp e).1
                simpa using this
              rw [List.getElem?_set_self hl] at z
              cases z
              cases s with
              | own xs =>
                obtain ⟨p', vs, ep, _, _, _, hv, _⟩ := r1
                cases ep
                rw [hp] at hv; cases hv
              | un => cases ho
              | val d => cases ho
              | ownI cn ns ds => exact r1.elim
              | ownD ks ds => exact r1.elim
              | ownT ks ds => exact r1.elim
            · rw [List.getElem?_set_ne ne] at z
              exact R1.notOwn hp m s e ho z
          have Rb := Rel.setK (i := j) R1 W2 Ex.refl Ra r2 nw2
          exact p N2 c2 _ H2 (x12.sx R.wd W2) Rb
      · cases q
    · cases q
end
end LW

/-! LwM: defs that say repr (nothing is being shown around them); the end of a law. -/
namespace LW
open PySem L2 PyProof.Rows

/-- as FnOk, where nothing is being shown around the call -/
structure FnD (P : Program) (w : World) (K : PySem.W.Frag) (mg : Str → Option Value) (base : Heap) (k : Nat) (f : Addr) (fd : FuncData) (ps : List Str) (sp : Sp) : Prop where
  len : ∀ vs H Q E, sp vs H Q E → vs.length = ps.length
  run : ∀ (A : Around) (outer : List PySem.Env) (s : Shared) (H : Hp) (args : Args) (us : List Value) (vs : List V) (Q : VK) (E : XK), Room k A → A.guards = some [] → Env0 P w K mg base A outer s H → BindsTo s fd args (ps.zip us) → Vals vs us → sp vs H Q E →
    codeAny (model P w) A (.call (.ref f) args) (CR CX0 outer P w H s Q E) s
section
variable {P : Program} {w : World} {K : PySem.W.Frag} {mg : Str → Option Value} {base : Heap} {k : Nat} {f : Addr} {fd : FuncData} {ps : List Str} {sp : Sp}
theorem FnD.of (F : FnOk P w K mg base CX0 k f fd ps sp) : FnD P w K mg base k f fd ps sp := ⟨F.len, fun A outer s H args us vs Q E hr _ => F.run A outer s H args us vs Q E hr⟩
theorem fn_D {x qual : Str} {st : Stmt} {nm : List Str} (F : Fun K x qual st f fd) (S : FnScope nm ps (defScope st)) (len : ∀ vs H Q E, sp vs H Q E → vs.length = ps.length)
    (hbody : ∀ (cdv : Value) (A : Around) (outer : List PySem.Env) (s : Shared) (H : Hp) (vs : List V) (Q : VK) (E : XK), Room k (A.deeper (envOfC qual (defScope st) s.heap.objs.size f cdv)) → A.guards = some [] → sp vs H Q E →
      ∃ t, PSs (cxOf CX0 P w K mg base nm qual (defScope st) f cdv A outer s H E).nox (defBody st) t ∧ t { nx := fun _ H' => Q .non H', rt := Q } (L2.start nm vs) H) : FnD P w K mg base (k + 1) f fd ps sp := by
  obtain ⟨oc, od, kV, doc, pm, an, cdv, ct, osl, rfl, lk, hcd⟩ := F.ex
  refine ⟨len, fun A outer s H args us vs Q E hr hgd e0 hb r hsp => ?_⟩
  have hl : vs.length = ps.length := len _ _ _ _ hsp
  have inK : K.In s.heap := e0.mod.kin.keeps fun b o e => (e0.bs b o e).1
  have noL : s.heap.NoLimit := e0.mod.nolimit.keeps fun b o e => (e0.bs b o e).1
  have kinds : ∀ y ∈ ps.zip us, (defScope st).names.lookup y.1 = some .local ∨ ((defScope st).names.lookup y.1 = some .cell ∧ ((cellsFrom (s.heap.objs.size + 1) (defScope st).names []).lookup y.1).isSome = true) := by
    rintro ⟨n, v⟩ hy
    exact (S.par n (List.of_mem_zip hy).1).elim .inl fun q => .inr ⟨q, PySem.W.cellsFrom_some _ _ _ (.inl q)⟩
  refine codeAny_call_function hr.depth (inK _ _ lk) rfl S.co S.gen rfl (PySem.W.codeRec_of inK hcd) (hb _ _ _ _ ?_)
  refine wpAny_newFunctionEnv_cells S.kind kinds fun env he s1 z => ?_
  subst he
  refine ⟨noL.keeps z.toInCall.keep, codeAny_func ?_⟩
  obtain ⟨t, ht, hq⟩ := hbody cdv A outer s H vs Q E (hr.deeper _) hgd hsp
  have I := inv_start (CX := CX0) (E := E) S hr.hd e0 hl r z
  refine wpAny_mono (ht.nox.run [] s1 (L2.start nm vs) H _ I hq) (fun fl s' hs => ?_) fun e s' hs => hs
  cases fl with
  | ret u =>
    obtain ⟨v, σ', H', J, rv, q⟩ := hs
    exact ⟨v, H', J.os, J.bare, J.base, J.hok, rv, q⟩
  | next =>
    obtain ⟨σ', H', J, q⟩ := hs
    exact ⟨V.non, H', J.os, J.bare, J.base, J.hok, rfl, q⟩
  | brk => exact (hs.choose_spec.choose_spec.2 : False).elim
  | cont => exact (hs.choose_spec.choose_spec.2 : False).elim
theorem fn_MD {x qual : Str} {st : Stmt} {nm : List Str} {body : SS} (F : Fun K x qual st f fd) (S : FnScope nm ps (defScope st))
    (hbody : ∀ (cdv : Value) (A : Around) (outer : List PySem.Env) (s : Shared) (H : Hp) (E : XK), Room k (A.deeper (envOfC qual (defScope st) s.heap.objs.size f cdv)) → A.guards = some [] →
      PSs (cxOf CX0 P w K mg base nm qual (defScope st) f cdv A outer s H E).nox (defBody st) (tS ⟨mg, K⟩ body)) :
    FnD P w K mg base (k + 1) f fd ps (spM ⟨mg, K⟩ (fnM ps.length nm.length body) ps.length) := by
  refine fn_D F S (fun vs H Q E h => h.1) fun cdv A outer s H vs Q E hr hgd h => ⟨_, hbody cdv A outer s H E hr hgd, ?_⟩
  obtain ⟨_, N, c, ds, st0, d, st', W, r, q, kk⟩ := h
  unfold fnM at q
  split at q
  · rename_i hl
    have R := rel0 (nm := nm) W r
    split at q
    · rename_i d1 s1 q1
      cases q
      exact tS_def.mpr ⟨_, N, c, _, st0, _, _, R, q1, fun c' H' v fn => kk v _ c' H' (fn.ex W) fn.wd fn.rep⟩
    · rename_i e1 s1 q1
      cases q
      exact tS_def.mpr ⟨_, N, c, _, st0, _, _, R, q1, fun N' c' σ' H' sx R' => kk .non _ c' H' ((R'.fin .non).ex W) (R'.fin .non).wd (.non)⟩
    · cases q
  · cases q
end
section
variable {mg : Glob} {X : Cx} {k : Nat} {f C : Addr} {fd : FuncData} {ps : List Str} {g : FM} {n : Nat} {dvs : List V} {ds : List Value} {dd : List D} {x m : Str} {p pos apos : Pos} {e o : Expr} {es : List Expr} {fs : SA} {fo : SE}
end

/-! ### the end of a law -/
/-- the script as data -/
theorem rep_script {mg : Glob} {N : Prot} {c : List Addr} {H : Hp} {a : Addr} {ns : List Int} (hO : Only H) (hS : SqL mg.K H a (ns.map V.int)) (hN : ¬ N a) : Rep mg N c H (.ref a) (.fro (ns.map D.int)) := by
  rcases hS with (h | ⟨o, h⟩) | h
  · rcases hO a with z | ⟨o, xs, z⟩
    · rw [h] at z; cases z
    · rw [h] at z; cases z
  · exact .fro h hN (RepL.ints ns)
  · exact .kro fun H' => .inr h
theorem sp_law {mg : Glob} {g : FM} {H : Hp} {a : Addr} {ns : List Int} (hO : Only H) (hS : SqL mg.K H a (ns.map V.int)) {st' : Sto} (hg : g [.fro (ns.map D.int)] [] = some (.bl true, st')) : spM mg g 1 [.ref a] H (fun v _ => v = .bl true) fun _ _ _ => False := by
  refine ⟨rfl, fun _ => False, [], [.fro (ns.map D.int)], [], .bl true, st', ⟨rfl, fun k a xs h => by simp at h, fun a h => by simp at h, List.nodup_nil, fun a h => h.elim⟩, .cons (rep_script hO hS fun z => z) .nil, hg, fun v N' c' H' _ _ r => ?_⟩
  cases r
  rfl
/-- the law's call behind the top -/
theorem law_D {P : Program} {w : World} {K : PySem.W.Frag} {mg mb : Str → Option Value} {k : Nat} {fa a : Addr} {fd : FuncData} {x : Str} {sp : Sp} {s₁ : Shared} {vs : List Value} {ns : List Int}
    (KX : K.In s₁.heap) (hns : s₁.heap.Ns mainGlobals mg) (hb : s₁.heap.Ns builtinsNs mb) (hbb : ∀ x : Str, x ≠ "__name__" → mb x = bootBuiltins x) (hlim : s₁.heap.NoLimit) (hg : s₁.gens = #[])
    (ha : s₁.heap.get? a = some { cls := .type "list", data := .seq vs.toArray }) (hi : IntsAre vs ns) (hl : ns.length ≤ sizeLine) (hr : Room k callerA)
    (F : ∀ base : Heap, K.In base → base.Ns mainGlobals mg → FnD P w K mg base k fa fd [x] sp) (hbind : ∀ (s : Shared) (u : Value), BindsTo s fd ⟨[u], []⟩ [(x, u)])
    (hsp : ∀ H : Hp, Only H → SqL K H a (ns.map V.int) → sp [.ref a] H (fun v _ => v = .bl true) fun _ _ _ => False) :
    codeAny (model P w) callerA (.call (.ref fa) ⟨[.ref a], []⟩) (fun r s' => r = .ok (.ret (.bool true)) ∧ OldK s₁.heap s'.heap ∧ s'.os = s₁.os ∧ AllBare s'.gens) s₁ := by
  have rv := vals_ints hi
  have lv := hi.length
  -- the script is tracked, frozen, unless it is an object of the module
  let ob : Obj := { cls := .type "list", data := .seq vs.toArray }
  let H : Hp := fun b => if b = a ∧ K.lookup a = none then some (.frz ob (.lst (ns.map V.int))) else none
  have hH : ∀ b u, H b = some u → b = a ∧ K.lookup a = none ∧ u = .frz ob (.lst (ns.map V.int)) := fun b u e => by
    by_cases q : b = a ∧ K.lookup a = none
    · have e' := (if_pos q).symm.trans e
      cases e'
      exact ⟨q.1, q.2, rfl⟩
    · have e' := (if_neg q).symm.trans e
      cases e'
  have hO : Only H := fun b => by
    by_cases q : b = a ∧ K.lookup a = none
    · exact .inr ⟨_, _, if_pos q⟩
    · exact .inl (if_neg q)
  have hS : SqL K H a (ns.map V.int) := by
    cases hk : K.lookup a with
    | none => exact .inl (.inr ⟨ob, if_pos ⟨rfl, hk⟩⟩)
    | some o =>
      have e := KX a o hk
      rw [ha] at e
      cases e
      exact .inr ⟨_, vs.toArray, _, hk, rfl, rfl, rfl, by rw [List.size_toArray, lv]; exact hl, by simpa using rv⟩
  have hok : HOk P w H s₁.heap := fun b u e => by
    obtain ⟨rfl, _, rfl⟩ := hH b u e
    exact ⟨ha, by rw [List.length_map]; exact hl, vs, _, rv, ha⟩
  -- namespaces and the written part are not tracked
  have dictFree : ∀ {b : Addr} {o : Obj} {es : Array DictEntry} {ep : Nat}, s₁.heap.get? b = some o → o.data = .dict es ep → H b = none := fun {b o es ep} e d => by
    cases q : H b with
    | none => rfl
    | some u =>
      obtain ⟨rfl, _, _⟩ := hH b u q
      rw [ha] at e
      cases e
      cases (show Data.seq vs.toArray _ = Data.dict es ep from d)
  have nsK : ∀ {b : Addr} {m : Str → Option Value}, s₁.heap.Ns b m → (hidT s₁.heap H).Ns b m := fun {b m} ⟨o, es, ep, e, d, r⟩ => ⟨o, es, ep, hidT_get e (dictFree e d), d, r⟩
  have kb : K.In (hidT s₁.heap H) := fun b o e => hidT_get (KX b o e) (by
    cases q : H b with
    | none => rfl
    | some u =>
      obtain ⟨rfl, z, _⟩ := hH b u q
      have e' : K.lookup b = some o := e
      rw [z] at e'; cases e')
  have md : Mod K mg (hidT s₁.heap H) := ⟨kb, nsK hns, ⟨mb, nsK hb, hbb⟩, let ⟨mc, h1, h2⟩ := hlim; ⟨mc, nsK h1, h2⟩⟩
  have e0 : Env0 P w K mg (hidT s₁.heap H) callerA [] s₁ H := ⟨rfl, md, fun b o e => of_hidT e, Nat.le_of_eq (hidT_size _ _), trivial, fun b z => absurd z (by simp [frs]), hok, .of_eq hg⟩
  refine codeAny_mono ((F _ kb (nsK hns)).run callerA [] s₁ H ⟨[.ref a], []⟩ [.ref a] [.ref a] _ _ hr rfl e0 (hbind s₁ (.ref a)) (.cons rfl .nil) (hsp H hO hS)) fun r s' h => ?_
  cases r with
  | error e => exact h.elim
  | ok fl =>
    cases fl with
    | next => exact h.elim
    | brk => exact h.elim
    | cont => exact h.elim
    | ret u =>
      obtain ⟨v, H', os, bare, un, hok', r', q⟩ := h
      subst q
      obtain rfl : u = Value.bool true := r'
      refine ⟨rfl, OldK.of_keep fun b o e => ?_, os, bare⟩
      cases q : H b with
      | none => exact un.keep b o e q (by simp [frs]) (by simp)
      | some u =>
        obtain ⟨rfl, hk, rfl⟩ := hH b u q
        have z2 := un.frzs b ob _ q
        obtain ⟨e1, _⟩ := hok b _ q
        obtain ⟨e2, _⟩ := hok' b _ z2
        rw [e] at e1
        cases e1
        exact e2
end LW

/-! LwN: short words: a def, a method, a class, with where it stands. -/
namespace LW
open PySem L2 PyProof.Rows

section
variable (P : Program) (w : World) (K : PySem.W.Frag) (mg : Str → Option Value) (base : Heap)
/-- the def x of the module, as the top has left it -/
def FT (x : Str) (st : Stmt) : Prop := ∃ f fd, mg x = some (.ref f) ∧ Fun K x x st f fd
/-- the method m of the class at C -/
def MT (C : Addr) (m qual : Str) (st : Stmt) : Prop := ∃ f fd, Meth K C m f ∧ Fun K m qual st f fd
/-- the def x keeps the promise of g -/
def OkF (k : Nat) (x : Str) (ps : List Str) (g : FM) : Prop := ∃ f fd, mg x = some (.ref f) ∧ PySem.W.keepIn K (.ref f) = true ∧ FnOk P w K mg base CX0 k f fd ps (spM ⟨mg, K⟩ g ps.length) ∧ Binds K fd ps [] ∧ Ar ps.length g
def OkD (k : Nat) (x : Str) (ps : List Str) (g : FM) : Prop := ∃ f fd, mg x = some (.ref f) ∧ PySem.W.keepIn K (.ref f) = true ∧ FnD P w K mg base k f fd ps (spM ⟨mg, K⟩ g ps.length) ∧ Binds K fd ps [] ∧ Ar ps.length g
def OkM (k : Nat) (C : Addr) (m : Str) (ps : List Str) (g : FM) : Prop := ∃ f fd, Meth K C m f ∧ FnOk P w K mg base CX0 k f fd ps (spM ⟨mg, K⟩ g ps.length) ∧ Binds K fd ps [] ∧ Ar ps.length g
/-- the class cn is made by an __init__ that reckons g -/
def OkC (k : Nat) (cn : Str) (C : Addr) (n : Nat) (ps : List Str) (g : FI) : Prop := ∃ f fd, Mk K C f ∧ FnOk P w K mg base CX0 k f fd ps (spI ⟨mg, K⟩ cn g n) ∧ Binds K fd ps [] ∧ ArI n g
end
section
variable {P : Program} {w : World} {K : PySem.W.Frag} {mg : Str → Option Value} {base : Heap} {k : Nat} {x m qual cn : Str} {st : Stmt} {nm ps : List Str} {body : SS} {C : Addr}
theorem okF_mk (F : FT K mg x st) (S : FnScope nm ps (defScope st))
    (hb : ∀ (kV doc pm : Value) (an : Option Addr) (cdv ct : Value) (us : List Value), us.length = ps.length → bindArgs (PySem.W.fnOf x x (defArgs st) (defBody st) (defScope st) .none kV doc pm an cdv ct) ⟨us, []⟩ = pure (ps.zip us))
    (hbody : ∀ (f : Addr) (cdv : Value) (A : Around) (outer : List PySem.Env) (s : Shared) (H : Hp) (E : XK), Room k (A.deeper (envOfC x (defScope st) s.heap.objs.size f cdv)) →
      PSs (cxOf CX0 P w K mg base nm x (defScope st) f cdv A outer s H E).nox (defBody st) (tS ⟨mg, K⟩ body)) : OkF P w K mg base (k + 1) x ps (fnM ps.length nm.length body) := by
  obtain ⟨f, fd, hm, F⟩ := F
  exact ⟨f, fd, hm, F.kp, fn_M F S fun cdv A outer s H E hr => hbody f cdv A outer s H E hr, F.binds hb, fnM_ar⟩
theorem OkF.d (h : OkF P w K mg base k x ps g) : OkD P w K mg base k x ps g := by
  obtain ⟨f, fd, h1, h2, h3, h4, h5⟩ := h
  exact ⟨f, fd, h1, h2, FnD.of h3, h4, h5⟩
theorem okM_mk (F : MT K C m qual st) (S : FnScope nm ps (defScope st))
    (hb : ∀ (kV doc pm : Value) (an : Option Addr) (cdv ct : Value) (us : List Value), us.length = ps.length → bindArgs (PySem.W.fnOf m qual (defArgs st) (defBody st) (defScope st) .none kV doc pm an cdv ct) ⟨us, []⟩ = pure (ps.zip us))
    (hbody : ∀ (f : Addr) (cdv : Value) (A : Around) (outer : List PySem.Env) (s : Shared) (H : Hp) (E : XK), Room k (A.deeper (envOfC qual (defScope st) s.heap.objs.size f cdv)) →
      PSs (cxOf CX0 P w K mg base nm qual (defScope st) f cdv A outer s H E).nox (defBody st) (tS ⟨mg, K⟩ body)) : OkM P w K mg base (k + 1) C m ps (fnM ps.length nm.length body) := by
  obtain ⟨f, fd, hm, F⟩ := F
  exact ⟨f, fd, hm, fn_M F S fun cdv A outer s H E hr => hbody f cdv A outer s H E hr, F.binds hb, fnM_ar⟩
theorem okC_mk {n : Nat} (F : ∃ f fd, Mk K C f ∧ Fun K "__init__" qual st f fd) (S : FnScope nm ps (defScope st)) (hn : ps.length = n + 1) (hm : nm.length = nm.length - 1 + 1)
    (hb : ∀ (kV doc pm : Value) (an : Option Addr) (cdv ct : Value) (us : List Value), us.length = ps.length → bindArgs (PySem.W.fnOf "__init__" qual (defArgs st) (defBody st) (defScope st) .none kV doc pm an cdv ct) ⟨us, []⟩ = pure (ps.zip us))
    (hbody : ∀ (f : Addr) (cdv : Value) (A : Around) (outer : List PySem.Env) (s : Shared) (H : Hp) (E : XK), Room k (A.deeper (envOfC qual (defScope st) s.heap.objs.size f cdv)) →
      PSs (cxOf CX0 P w K mg base nm qual (defScope st) f cdv A outer s H E).nox (defBody st) (tS ⟨mg, K⟩ body)) : OkC P w K mg base (k + 1) cn C n ps (initM cn n nm.length body) := by
  obtain ⟨f, fd, hM, F⟩ := F
  exact ⟨f, fd, hM, fn_I F S hn hm fun cdv A outer s H E hr => hbody f cdv A outer s H E hr, F.binds hb, initM_ar⟩
end

/-! ### calls -/
section
variable {X : Cx} {k : Nat} {C : Addr} {ps : List Str} {g : FM} {gi : FI} {n : Nat} {dvs : List V} {dd : List D} {x m cn : Str} {p pos apos : Pos} {e o a b : Expr} {es : List Expr} {fs : SA} {fo fa fb : SE}
theorem c_call (h : OkF X.prog X.w X.K X.mg X.base k x ps g) (hr : Room k X.A) (ha : PA X (e :: es) (tA ⟨X.mg, X.K⟩ fs)) (hg : Gl X x := by rfl) (hdb : (x == ("__debug__" : Str)) = false := by decide) (he : starEach (e :: es) X.env = (false, eval e X.env) :: starEach es X.env := by rfl) (hpl : (backTo pos (starEach es X.env)).any (·.1) = false := by rfl) :
    PE X (.Call (.Name x p) (e :: es) [] pos) (tE ⟨X.mg, X.K⟩ (eCall g [] fs)) := by
  obtain ⟨f, fd, hm, hk, F, hb, ar⟩ := h
  exact d_call F ar hr hm hk hb .nil dfl_nil ha hg hdb he hpl
theorem c_make (h : OkC X.prog X.w X.K X.mg X.base k x C n ps gi) (hC : X.mg x = some (.ref C)) (hr : Room (k + 1) X.A) (ha : PA X (e :: es) (tA ⟨X.mg, X.K⟩ fs)) (hg : Gl X x := by rfl) (hdb : (x == ("__debug__" : Str)) = false := by decide) (he : starEach (e :: es) X.env = (false, eval e X.env) :: starEach es X.env := by rfl) (hpl : (backTo pos (starEach es X.env)).any (·.1) = false := by rfl) :
    PE X (.Call (.Name x p) (e :: es) [] pos) (tE ⟨X.mg, X.K⟩ (eMake x gi [] fs)) := by
  obtain ⟨f, fd, M, F, hb, ar⟩ := h
  exact d_make M F ar hr hC hb .nil dfl_nil ha rfl hg hdb he hpl
/-- a class with an own __eq__ -/
structure EqF (X : Cx) (k : Nat) (C : Addr) (cs : List Str) (g : FM) : Prop where
  isi : Isi ⟨X.mg, X.K⟩ cs
  nf : NotF ⟨X.mg, X.K⟩ cs C
  ne : PySem.W.findIn X.K (.ref C) "__ne__" = some (some (.builtin "object.__ne__"))
  ob : PySem.W.mroIn X.K C (.type "object") = some true
  eq : ∃ ps, ps.length = 2 ∧ OkM X.prog X.w X.K X.mg X.base k C "__eq__" ps g
theorem c_ne {cs : List Str} (h : EqF X k C cs g) (hC : X.mg cn = some (.ref C)) (hr : Room (k + 1) X.A) (ha : PE X a (tE ⟨X.mg, X.K⟩ fa)) (hb' : PE X b (tE ⟨X.mg, X.K⟩ fb)) : PE X (.Compare a [.NotEq] [b] pos) (tE ⟨X.mg, X.K⟩ (eOwn cn cs true g fa fb)) := by
  obtain ⟨ps, hl, f, fd, hm, F, hb, ar⟩ := h.eq
  rw [hl] at F ar
  exact d_neO ha hb' hC h.isi h.nf F ar hr h.ne h.ob hm.at_ hm.fn hb
/-- n.bit_length() -/
def eBits (f : SE) : SE := fun env st => match f env st with
  | some (.int i, s1) => some (.int (Builtin.Int.intBits i : Nat), s1)
  | _ => none
end
end LW

/-! LwO: from what the head has written to the words of LwN. -/
namespace LW
open PySem L2 PyProof.Rows
section
variable {P : Program} {w : World} {K : PySem.W.Frag} {mg : Str → Option Value} {base h : Heap} {x m qual cn : Str} {st : Stmt} {f p C T : Addr} {oc kV doc pm cdv ct : Value} {od an : Option Addr} {osl : Array (Option Value)} {rest : List Value}
theorem cf_mk (pg : PySem.W.plainGet K C Str.empty = true) (hd : PySem.W.hasDictIn K C = true) (po : PySem.W.plainOver K C = true) (sa : PySem.W.findIn K (.ref C) "__setattr__" = some (some (.builtin "object.__setattr__")))
    (ha : PySem.W.findIn K (.ref C) "__class__" = some (some (.builtin "object.__class__"))) (hn : PySem.W.specialIn K (.builtin "object.__class__") "__get__" = some (some (.builtin "getset_descriptor.__get__")))
    (htk : PySem.W.takesIn K (.builtin "object.__class__") = some true) (hm : PySem.W.mroIn K C (.type "object") = some true) : CF K C := ⟨⟨pg, hd, po, sa⟩, ha, hn, htk, hm⟩
theorem isi1_mk (hC : mg cn = some (.ref C)) (cf : CF K C) (oo : PySem.W.kitOne K (.ref C) (.ref C) = some true) (b1 : PySem.W.kitOne K (.type "int") (.ref C) = some false) (b2 : PySem.W.kitOne K (.type "str") (.ref C) = some false) (b3 : PySem.W.kitOne K (.type "list") (.ref C) = some false)
    (b4 : PySem.W.kitOne K (.type "tuple") (.ref C) = some false) (b5 : PySem.W.kitOne K (.type "dict") (.ref C) = some false) (b6 : PySem.W.kitOne K (.type "bool") (.ref C) = some false) (b7 : PySem.W.kitOne K (.type "NoneType") (.ref C) = some false)
    (d1 : PySem.W.kitOne K (.ref C) (.type "int") = some false) (d2 : PySem.W.kitOne K (.ref C) (.type "str") = some false) (d3 : PySem.W.kitOne K (.ref C) (.type "list") = some false) (d4 : PySem.W.kitOne K (.ref C) (.type "tuple") = some false) (d5 : PySem.W.kitOne K (.ref C) (.type "dict") = some false)
    (d6 : PySem.W.kitOne K (.ref C) (.type "bool") = some false) : Isi ⟨mg, K⟩ [cn] where
  cf n C' h hn := by
    cases List.mem_singleton.mp h
    cases hC.symm.trans hn
    exact cf
  oo n m C1 C2 h h' hn hm := by
    cases List.mem_singleton.mp h
    cases List.mem_singleton.mp h'
    cases hC.symm.trans hn
    cases hC.symm.trans hm
    rw [oo]; simp
  bo t m C' h hn := by
    cases List.mem_singleton.mp h
    cases hC.symm.trans hn
    cases t <;> assumption
  ob n C' t h hn ne := by
    cases List.mem_singleton.mp h
    cases hC.symm.trans hn
    cases t <;> first | assumption | exact absurd rfl ne
/-- law itself -/
theorem fn_end {nm : List Str} {par : Str} {fa : Addr} {k : Nat} {body : SS} (F : FT K mg x st) (hfa : mg x = some (.ref fa)) (S : FnScope nm [par] (defScope st))
    (hb : ∀ (kV doc pm : Value) (an : Option Addr) (cdv ct u : Value), bindArgs (PySem.W.fnOf x x (defArgs st) (defBody st) (defScope st) .none kV doc pm an cdv ct) ⟨[u], []⟩ = pure [(par, u)])
    (hbody : ∀ (base : Heap) (f : Addr) (cdv : Value) (A : Around) (outer : List PySem.Env) (s : Shared) (H : Hp) (E : XK), Room k (A.deeper (envOfC x (defScope st) s.heap.objs.size f cdv)) → A.guards = some [] →
      PSs (cxOf CX0 P w K mg base nm x (defScope st) f cdv A outer s H E).nox (defBody st) (tS ⟨mg, K⟩ body)) :
    ∃ fd : FuncData, (∀ (s : Shared) (u : Value), BindsTo s fd ⟨[u], []⟩ [(par, u)]) ∧ ∀ base : Heap, FnD P w K mg base (k + 1) fa fd [par] (spM ⟨mg, K⟩ (fnM 1 nm.length body) 1) := by
  obtain ⟨f, fd, hm, F⟩ := F
  cases hfa.symm.trans hm
  refine ⟨fd, fun s u => ?_, fun base => fn_MD F S fun cdv A outer s H E hr hg => hbody base fa cdv A outer s H E hr hg⟩
  obtain ⟨_, _, kV, doc, pm, an, cdv, ct, _, rfl, _, _⟩ := F.ex
  exact .of_eq (hb kV doc pm an cdv ct u)
end
end LW

/-! LwP: how a mirror runs, told backwards. -/
namespace LW
open PySem L2
inductive Ok {α : Type} (o : Option (α × Sto)) (Q : α → Sto → Prop) : Prop where
  | mk (a : α) (s : Sto) (e : o = some (a, s)) (h : Q a s)
inductive Od {α : Type} (o : Option α) (Q : α → Prop) : Prop where
  | mk (a : α) (e : o = some a) (h : Q a)
@[reducible] def AsB : D → (Bool → Prop) → Prop
  | .bl b, Q => Q b
  | _, _ => False
@[reducible] def AsI : D → (Int → Prop) → Prop
  | .int b, Q => Q b
  | _, _ => False
@[reducible] def AsK : D → (Nat → Prop) → Prop
  | .cell b, Q => Q b
  | _, _ => False
@[reducible] def AsO : D → (Str → List Str → List D → Prop) → Prop
  | .obj c n v, Q => Q c n v
  | _, _ => False
theorem AsB.of {d : D} {Q : Bool → Prop} (h : AsB d Q) : ∃ b, d = .bl b ∧ Q b := by
  cases d <;> first | exact ⟨_, rfl, h⟩ | exact h.elim
theorem AsI.of {d : D} {Q : Int → Prop} (h : AsI d Q) : ∃ b, d = .int b ∧ Q b := by
  cases d <;> first | exact ⟨_, rfl, h⟩ | exact h.elim
theorem AsK.of {d : D} {Q : Nat → Prop} (h : AsK d Q) : ∃ b, d = .cell b ∧ Q b := by
  cases d <;> first | exact ⟨_, rfl, h⟩ | exact h.elim
theorem AsO.of {d : D} {Q : Str → List Str → List D → Prop} (h : AsO d Q) : ∃ a b c, d = .obj a b c ∧ Q a b c := by
  cases d <;> first | exact ⟨_, _, _, rfl, h⟩ | exact h.elim
theorem Ok.mono {α : Type} {o : Option (α × Sto)} {Q R : α → Sto → Prop} (h : Ok o Q) (k : ∀ a s, Q a s → R a s) : Ok o R := by
  obtain ⟨a, s, e, q⟩ := h
  exact ⟨a, s, e, k a s q⟩
theorem Ok.eq {α : Type} {o : Option (α × Sto)} {a : α} {s : Sto} (h : Ok o fun x t => x = a ∧ t = s) : o = some (a, s) := by
  obtain ⟨_, _, e, rfl, rfl⟩ := h
  exact e
theorem Ok.use {α : Type} {o : Option (α × Sto)} {a : α} {s : Sto} {Q : α → Sto → Prop} (e : o = some (a, s)) (h : Q a s) : Ok o Q := ⟨a, s, e, h⟩
section
variable {env : Env} {st : Sto} {Q : D → Sto → Prop} {QB : Bool → Sto → Prop} {QL : List D → Sto → Prop} {QS : Out → Sto → Prop} {i : Nat} {d : D} {fa fb fe : SE} {fs gs : SA} {fl : Fx (List D)} {ta tb : SB} {xs : List D}
theorem z_var (e : env[i]? = some (.val d)) (h : Q d st) : Ok (eVar i env st) Q := ⟨d, st, by unfold eVar; rw [e], h⟩
theorem z_pk (e : env[i]? = some (.val d)) (h : Q d st) : Ok (ePeek i env st) Q := ⟨d, st, by unfold ePeek; rw [e], h⟩
theorem z_pkO (e : env[i]? = some (.own xs)) (h : Q (.lst xs) st) : Ok (ePeek i env st) Q := ⟨_, st, by unfold ePeek; rw [e], h⟩
theorem z_c (h : Q d st) : Ok (eC d env st) Q := ⟨d, st, rfl, h⟩
theorem z_op {α : Type} {op : D → D → Sto → Option α} {Q : α → Sto → Prop} (h : Ok (fa env st) fun x s1 => Ok (fb env s1) fun y s2 => Od (op x y s2) fun d => Q d s2) : Ok (eOp op fa fb env st) Q := by
  obtain ⟨x, s1, e1, y, s2, e2, d, e3, q⟩ := h
  exact ⟨d, s2, by unfold eOp; rw [e1]; dsimp only; rw [e2]; dsimp only; rw [e3], q⟩
theorem z_nil (h : QL [] st) : Ok (aNil env st) QL := ⟨_, st, rfl, h⟩
theorem z_cons (h : Ok (fe env st) fun d s1 => Ok (fs env s1) fun ds s2 => QL (d :: ds) s2) : Ok (aCons fe fs env st) QL := by
  obtain ⟨x, s1, e1, y, s2, e2, q⟩ := h
  exact ⟨_, s2, by unfold aCons; rw [e1]; dsimp only; rw [e2], q⟩
theorem z_tup (h : Ok (fs env st) fun ds s => ds.length ≤ 1000000 ∧ Q (.tup ds) s) : Ok (eTup fs env st) Q := by
  obtain ⟨x, s1, e1, l, q⟩ := h
  exact ⟨_, s1, by unfold eTup; rw [e1]; dsimp only; rw [if_pos l], q⟩
theorem z_lst (h : Ok (fs env st) fun ds s => ds.length ≤ 1000000 ∧ QL ds s) : Ok (lDisp fs env st) QL := by
  obtain ⟨x, s1, e1, l, q⟩ := h
  exact ⟨_, s1, by unfold lDisp; rw [e1]; dsimp only; rw [if_pos l], q⟩
theorem z_L (h : Ok (fl env st) fun ds s => Q (.lst ds) s) : Ok (eL fl env st) Q := by
  obtain ⟨x, s1, e1, q⟩ := h
  exact ⟨_, s1, by unfold eL; rw [e1]; rfl, q⟩
theorem z_bi {α : Type} {g : List D → Sto → Option α} {Q : α → Sto → Prop} (h : Ok (fs env st) fun ds s => Od (g ds s) fun d => Q d s) : Ok (eBi g fs env st) Q := by
  obtain ⟨x, s1, e1, d, e2, q⟩ := h
  exact ⟨d, s1, by unfold eBi; rw [e1]; dsimp only; rw [e2], q⟩
theorem z_call {g : FM} {dd : List D} (h : Ok (fs env st) fun ds s => Ok (g (ds ++ dd) s) Q) : Ok (eCall g dd fs env st) Q := by
  obtain ⟨x, s1, e1, d, s2, e2, q⟩ := h
  exact ⟨d, s2, by unfold eCall; rw [e1]; exact e2, q⟩
theorem z_meth {cn m : Str} {g : FM} {dd : List D} (h : Ok (fe env st) fun o s1 => AsO o fun c ns vs => c = cn ∧ ¬ m ∈ ns ∧ Ok (fs env s1) fun ds s2 => Ok (g (.obj c ns vs :: (ds ++ dd)) s2) Q) : Ok (eMeth cn m g dd fe fs env st) Q := by
  obtain ⟨o, s1, e1, h⟩ := h
  obtain ⟨c, ns, vs, rfl, rfl, hm, ds, s2, e2, d, s3, e3, q⟩ := h.of
  exact ⟨d, s3, by unfold eMeth; rw [e1]; dsimp only; rw [if_pos ⟨rfl, hm⟩, e2]; exact e3, q⟩
theorem z_prop {cn : Str} {g : FM} (h : Ok (fe env st) fun o s1 => AsO o fun c ns vs => c = cn ∧ Ok (g [.obj c ns vs] s1) Q) : Ok (eProp cn g fe env st) Q := by
  obtain ⟨o, s1, e1, h⟩ := h
  obtain ⟨c, ns, vs, rfl, rfl, d, s3, e3, q⟩ := h.of
  exact ⟨d, s3, by unfold eProp; rw [e1]; dsimp only; rw [if_pos rfl]; exact e3, q⟩
theorem z_fld {cn m : Str} (h : Ok (fe env st) fun o s1 => AsO o fun c ns vs => c = cn ∧ Od (fldD m ns vs) fun d => Q d s1) : Ok (eFld cn m fe env st) Q := by
  obtain ⟨o, s1, e1, h⟩ := h
  obtain ⟨c, ns, vs, rfl, rfl, d, e3, q⟩ := h.of
  exact ⟨d, s1, by unfold eFld; rw [e1]; dsimp only; rw [if_pos rfl, e3], q⟩
theorem z_make {cn : Str} {g : FI} {dd : List D} (h : Ok (fs env st) fun ds s => Ok (g (ds ++ dd) s) fun r s2 => Q (.obj cn r.1 r.2) s2) : Ok (eMake cn g dd fs env st) Q := by
  obtain ⟨x, s1, e1, r, s2, e2, q⟩ := h
  exact ⟨_, s2, by unfold eMake; rw [e1]; dsimp only; rw [e2], q⟩
theorem z_and (h : Ok (fa env st) fun d s1 => AsB d fun b => if b = true then Ok (fb env s1) Q else Q (.bl false) s1) : Ok (eAnd fa fb env st) Q := by
  obtain ⟨o, s1, e1, h⟩ := h
  obtain ⟨b, rfl, h⟩ := h.of
  cases b with
  | true =>
    obtain ⟨d, s2, e2, q⟩ := h
    exact ⟨d, s2, by unfold eAnd; rw [e1]; exact e2, q⟩
  | false => exact ⟨_, s1, by unfold eAnd; rw [e1], h⟩
theorem z_or (h : Ok (fa env st) fun d s1 => AsB d fun b => if b = true then Q (.bl true) s1 else Ok (fb env s1) Q) : Ok (eOr fa fb env st) Q := by
  obtain ⟨o, s1, e1, h⟩ := h
  obtain ⟨b, rfl, h⟩ := h.of
  cases b with
  | false =>
    obtain ⟨d, s2, e2, q⟩ := h
    exact ⟨d, s2, by unfold eOr; rw [e1]; exact e2, q⟩
  | true => exact ⟨_, s1, by unfold eOr; rw [e1], h⟩
theorem z_not (h : Ok (fa env st) fun d s1 => AsB d fun b => Q (.bl (!b)) s1) : Ok (eNot fa env st) Q := by
  obtain ⟨o, s1, e1, h⟩ := h
  obtain ⟨b, rfl, h⟩ := h.of
  exact ⟨_, s1, by unfold eNot; rw [e1], h⟩
theorem z_neg (h : Ok (fa env st) fun d s1 => AsI d fun b => Q (.int (-b)) s1) : Ok (eNeg fa env st) Q := by
  obtain ⟨o, s1, e1, h⟩ := h
  obtain ⟨b, rfl, h⟩ := h.of
  exact ⟨_, s1, by unfold eNeg; rw [e1], h⟩
theorem z_bits (h : Ok (fa env st) fun d s1 => AsI d fun b => Q (.int (Builtin.Int.intBits b : Nat)) s1) : Ok (eBits fa env st) Q := by
  obtain ⟨o, s1, e1, h⟩ := h
  obtain ⟨b, rfl, h⟩ := h.of
  exact ⟨_, s1, by unfold eBits; rw [e1], h⟩
theorem z_eif {α : Type} {f g : Fx α} {Q : α → Sto → Prop} (h : Ok (ta env st) fun b s1 => if b = true then Ok (f env s1) Q else Ok (g env s1) Q) : Ok (eIf ta f g env st) Q := by
  obtain ⟨b, s1, e1, h⟩ := h
  cases b with
  | true =>
    obtain ⟨d, s2, e2, q⟩ := h
    exact ⟨d, s2, by unfold eIf; rw [e1]; exact e2, q⟩
  | false =>
    obtain ⟨d, s2, e2, q⟩ := h
    exact ⟨d, s2, by unfold eIf; rw [e1]; exact e2, q⟩
theorem t_of (h : Ok (fe env st) fun d s => AsB d fun b => QB b s) : Ok (bOf fe env st) QB := by
  obtain ⟨o, s1, e1, h⟩ := h
  obtain ⟨b, rfl, h⟩ := h.of
  exact ⟨_, s1, by unfold bOf; rw [e1], h⟩
theorem t_and (h : Ok (ta env st) fun b s => if b = true then Ok (tb env s) QB else QB false s) : Ok (bAnd ta tb env st) QB := by
  obtain ⟨b, s1, e1, h⟩ := h
  cases b with
  | true =>
    obtain ⟨d, s2, e2, q⟩ := h
    exact ⟨d, s2, by unfold bAnd; rw [e1]; exact e2, q⟩
  | false => exact ⟨_, s1, by unfold bAnd; rw [e1], h⟩
theorem t_or (h : Ok (ta env st) fun b s => if b = true then QB true s else Ok (tb env s) QB) : Ok (bOr ta tb env st) QB := by
  obtain ⟨b, s1, e1, h⟩ := h
  cases b with
  | false =>
    obtain ⟨d, s2, e2, q⟩ := h
    exact ⟨d, s2, by unfold bOr; rw [e1]; exact e2, q⟩
  | true => exact ⟨_, s1, by unfold bOr; rw [e1], h⟩
theorem t_not (h : Ok (ta env st) fun b s => QB (!b) s) : Ok (bNot ta env st) QB := by
  obtain ⟨b, s1, e1, h⟩ := h
  exact ⟨_, s1, by unfold bNot; rw [e1], h⟩
theorem z_slN {α : Type} {op : D → Option Int → Option Int → Sto → Option α} {lo hi : SO} {Q : α → Sto → Prop} (h : Ok (fe env st) fun x s1 => Ok (lo env s1) fun l s2 => Ok (hi env s2) fun u s3 => Od (op x l u s3) fun d => Q d s3) : Ok (eSl op fe lo hi env st) Q := by
  obtain ⟨x, s1, e1, l, s2, e2, u, s3, e3, d, e4, q⟩ := h
  exact ⟨d, s3, by unfold eSl; rw [e1]; dsimp only; rw [e2]; dsimp only; rw [e3]; dsimp only; rw [e4], q⟩
theorem z_oN {Q : Option Int → Sto → Prop} (h : Q none st) : Ok (oNone env st) Q := ⟨_, st, rfl, h⟩
theorem z_oS {Q : Option Int → Sto → Prop} (h : Ok (fe env st) fun d s => AsI d fun i => Q (some i) s) : Ok (oSome fe env st) Q := by
  obtain ⟨o, s1, e1, h⟩ := h
  obtain ⟨b, rfl, h⟩ := h.of
  exact ⟨_, s1, by unfold oSome; rw [e1], h⟩
/-! statements -/
variable {f g : SS}
theorem z_snil (h : QS (.nx env) st) : Ok (sNil env st) QS := ⟨_, st, rfl, h⟩
theorem z_seq (h : Ok (f env st) fun o s1 => match o with
    | .nx e => Ok (g e s1) QS
    | o => QS o s1) : Ok (sSeq f g env st) QS := by
  obtain ⟨o, s1, e1, h⟩ := h
  cases o with
  | nx e =>
    obtain ⟨d, s2, e2, q⟩ := h
    exact ⟨d, s2, by unfold sSeq; rw [e1]; exact e2, q⟩
  | rt d => exact ⟨_, s1, by unfold sSeq; rw [e1], h⟩
  | bk d => exact ⟨_, s1, by unfold sSeq; rw [e1], h⟩
  | ct d => exact ⟨_, s1, by unfold sSeq; rw [e1], h⟩
theorem z_set (h : Ok (fe env st) fun d s => QS (.nx (env.set i (.val d))) s) : Ok (sSet i fe env st) QS := by
  obtain ⟨d, s1, e1, h⟩ := h
  exact ⟨_, s1, by unfold sSet; rw [e1], h⟩
theorem z_own (h : Ok (fl env st) fun d s => QS (.nx (env.set i (.own d))) s) : Ok (sOwn i fl env st) QS := by
  obtain ⟨d, s1, e1, h⟩ := h
  exact ⟨_, s1, by unfold sOwn; rw [e1], h⟩
theorem z_ret (h : Ok (fe env st) fun d s => QS (.rt d) s) : Ok (sRet fe env st) QS := by
  obtain ⟨d, s1, e1, h⟩ := h
  exact ⟨_, s1, by unfold sRet; rw [e1], h⟩
theorem z_retC (h : Ok (fl env st) fun xs s => QS (.rt (.cell s.length)) (s ++ [xs])) : Ok (sRetC fl env st) QS := by
  obtain ⟨d, s1, e1, h⟩ := h
  exact ⟨_, _, by unfold sRetC; rw [e1], h⟩
theorem z_retO (e : env[i]? = some (.own xs)) (h : QS (.rt (.cell st.length)) (st ++ [xs])) : Ok (sRetO i env st) QS := ⟨_, _, by unfold sRetO; rw [e], h⟩
theorem z_drop (h : Ok (fe env st) fun _ s => QS (.nx env) s) : Ok (sDrop fe env st) QS := by
  obtain ⟨d, s1, e1, h⟩ := h
  exact ⟨_, s1, by unfold sDrop; rw [e1], h⟩
theorem z_sif (h : Ok (ta env st) fun b s1 => if b = true then Ok (f env s1) QS else Ok (g env s1) QS) : Ok (sIf ta f g env st) QS := by
  obtain ⟨b, s1, e1, h⟩ := h
  cases b with
  | true =>
    obtain ⟨d, s2, e2, q⟩ := h
    exact ⟨d, s2, by unfold sIf; rw [e1]; exact e2, q⟩
  | false =>
    obtain ⟨d, s2, e2, q⟩ := h
    exact ⟨d, s2, by unfold sIf; rw [e1]; exact e2, q⟩
theorem z_frz (h : Ok (f (frz i env) st) QS) : Ok (sFrz i f env st) QS := h
theorem z_app (h : Ok (fe env st) fun d s => ∃ xs, env[i]? = some (.own xs) ∧ xs.length < 1000000 ∧ QS (.nx (env.set i (.own (xs ++ [d])))) s) : Ok (sApp i fe env st) QS := by
  obtain ⟨d, s1, e1, xs, e2, l, h⟩ := h
  exact ⟨_, s1, by unfold sApp; rw [e1]; dsimp only; rw [e2]; dsimp only; rw [if_pos l], h⟩
theorem z_appC (h : Ok (fa env st) fun o s => AsK o fun k => (∃ ys, lcG s k = some ys) ∧ Ok (fe env s) fun d s2 => ∃ xs, lcG s2 k = some xs ∧ xs.length < 1000000 ∧ QS (.nx env) (s2.set k (xs ++ [d]))) : Ok (sAppC fa fe env st) QS := by
  obtain ⟨o, s1, e1, h⟩ := h
  obtain ⟨k, rfl, ⟨ys, e0⟩, d, s2, e2, xs, e3, l, q⟩ := h.of
  exact ⟨_, _, by unfold sAppC; rw [e1]; dsimp only; rw [e0]; dsimp only; rw [e2]; dsimp only; rw [e3]; dsimp only; rw [if_pos l], q⟩
theorem z_putC {fj : SE} (h : Ok (fe env st) fun d s1 => Ok (fa env s1) fun o s2 => AsK o fun k => Ok (fj env s2) fun j s3 => AsI j fun j => ∃ xs n, lcG s3 k = some xs ∧ ixN xs.length j = some n ∧ QS (.nx env) (s3.set k (xs.set n d))) : Ok (sPutC fa fj fe env st) QS := by
  obtain ⟨d, s1, e1, o, s2, e2, h⟩ := h
  obtain ⟨k, rfl, o, s3, e3, h⟩ := h.of
  obtain ⟨j, rfl, xs, n, e4, e5, q⟩ := h.of
  exact ⟨_, _, by unfold sPutC; rw [e1]; dsimp only; rw [e2]; dsimp only; rw [e3]; dsimp only; rw [e4]; dsimp only; rw [e5], q⟩
theorem z_for {fi : Fx Src} {asg : D → Env → Option Env} (h : Ok (fi env st) fun xs s1 => Ok (loopM xs.2 asg f xs.1 env s1) QS) : Ok (sFor fi asg f env st) QS := by
  obtain ⟨xs, s1, e1, o, s2, e2, q⟩ := h
  exact ⟨o, s2, by unfold sFor; rw [e1]; exact e2, q⟩
theorem z_lc {fi : Fx Src} {asg : D → Env → Option Env} {vs : List Nat} (h : Ok (fi env st) fun xs s1 => xs.1.length ≤ 1000000 ∧ Ok (compM xs.2 asg ta fe (wipeE env vs) xs.1 s1) QL) : Ok (lComp fi asg ta fe vs env st) QL := by
  obtain ⟨xs, s1, e1, l, o, s2, e2, q⟩ := h
  exact ⟨o, s2, by unfold lComp; rw [e1]; dsimp only; rw [if_pos l]; exact e2, q⟩
theorem z_yes (h : QB true st) : Ok (bYes env st) QB := ⟨_, st, rfl, h⟩
theorem z_kv {Q : Sl → Sto → Prop} (h : Ok (fe env st) fun d s => Q (.val d) s) : Ok (Kd.run (.val fe) env st) Q := by
  obtain ⟨d, s1, e1, h⟩ := h
  exact ⟨_, s1, by unfold Kd.run; dsimp only; rw [e1], h⟩
theorem z_ko {Q : Sl → Sto → Prop} (h : Ok (fl env st) fun d s => Q (.own d) s) : Ok (Kd.run (.own fl) env st) Q := by
  obtain ⟨d, s1, e1, h⟩ := h
  exact ⟨_, s1, by unfold Kd.run; dsimp only; rw [e1], h⟩
theorem z_par {j : Nat} {a b : Kd} (h : Ok (a.run env st) fun x s1 => Ok (b.run env s1) fun y s2 => i ≠ j ∧ QS (.nx ((env.set i x).set j y)) s2) : Ok (sPar i j a b env st) QS := by
  obtain ⟨x, s1, e1, y, s2, e2, n, q⟩ := h
  exact ⟨_, _, by unfold sPar; rw [e1]; dsimp only; rw [e2]; dsimp only; rw [if_neg n], q⟩
theorem z_unp {is : List Nat} (h : Ok (fe env st) fun d s => ∃ ds e, d = .tup ds ∧ setAll is ds env = some e ∧ QS (.nx e) s) : Ok (sUnp is fe env st) QS := by
  obtain ⟨d, s1, e1, ds, e, rfl, e2, q⟩ := h
  exact ⟨_, _, by unfold sUnp; rw [e1]; dsimp only; rw [e2], q⟩
theorem z_sfld {cn m : Str} (h : Ok (fe env st) fun d s => ∃ ns vs, env[i]? = some (.ownI cn ns vs) ∧ ns.length < 1000 ∧ QS (.nx (env.set i (.ownI cn (putD m d ns vs).1 (putD m d ns vs).2))) s) : Ok (sFld cn i m fe env st) QS := by
  obtain ⟨d, s1, e1, ns, vs, e2, l, q⟩ := h
  exact ⟨_, s1, by unfold sFld; rw [e1]; dsimp only; rw [e2]; dsimp only; rw [if_pos ⟨rfl, l⟩], q⟩
theorem z_fn {n m : Nat} {ds : List D} (hl : ds.length = n) (h : Ok (f (env0 m ds) st) fun o s => match o with
    | .rt d => Q d s
    | .nx _ => Q .non s
    | _ => False) : Ok (fnM n m f ds st) Q := by
  obtain ⟨o, s1, e1, h⟩ := h
  cases o with
  | nx e => exact ⟨_, s1, by unfold fnM; rw [if_pos hl, e1], h⟩
  | rt d => exact ⟨_, s1, by unfold fnM; rw [if_pos hl, e1], h⟩
  | bk d => exact h.elim
  | ct d => exact h.elim
/-! the sources of loops -/
variable {QI : Src → Sto → Prop}
theorem z_rg1 (h : Ok (fs env st) fun ds s => ∃ j, ds = [.int j] ∧ inR j = true ∧ QI (rangeD 0 1 j.toNat, noChk) s) : Ok (iRg1 fs env st) QI := by
  obtain ⟨ds, s1, e1, j, rfl, r, q⟩ := h
  exact ⟨_, s1, by unfold iRg1; rw [e1]; dsimp only; rw [if_pos r], q⟩
theorem z_rg2 (h : Ok (fs env st) fun ds s => ∃ i j, ds = [.int i, .int j] ∧ inR i = true ∧ inR j = true ∧ QI (rangeD i 1 (j - i).toNat, noChk) s) : Ok (iRg2 fs env st) QI := by
  obtain ⟨ds, s1, e1, i, j, rfl, r, r', q⟩ := h
  exact ⟨_, s1, by unfold iRg2; rw [e1]; dsimp only; rw [if_pos ⟨r, r'⟩], q⟩
end
section
variable {s : Sto} {Q : D → Prop} {i j : Int}
theorem u_add (h : Q (.int (i + j))) : Od (oAdd (.int i) (.int j) s) Q := ⟨_, rfl, h⟩
theorem u_sub (h : Q (.int (i - j))) : Od (oSub (.int i) (.int j) s) Q := ⟨_, rfl, h⟩
theorem u_mul (c : mulC i j = true) (h : Q (.int (i * j))) : Od (oMul (.int i) (.int j) s) Q := ⟨_, if_pos c, h⟩
theorem u_mod (c : 0 < j) (h : Q (.int (i % j))) : Od (oMod (.int i) (.int j) s) Q := ⟨_, if_pos (decide_eq_true c), h⟩
theorem u_div (c : divC i j = true) (h : Q (.int (i / j))) : Od (oDiv (.int i) (.int j) s) Q := ⟨_, if_pos c, h⟩
theorem u_pow (c : powC i j = true) (h : Q (.int (i ^ j.toNat))) : Od (oPow (.int i) (.int j) s) Q := ⟨_, if_pos c, h⟩
theorem u_lt (h : Q (.bl (decide (i < j)))) : Od (oLt (.int i) (.int j) s) Q := ⟨_, rfl, h⟩
theorem u_le (h : Q (.bl (decide (i ≤ j)))) : Od (oLe (.int i) (.int j) s) Q := ⟨_, rfl, h⟩
theorem u_gt (h : Q (.bl (decide (j < i)))) : Od (oGt (.int i) (.int j) s) Q := ⟨_, rfl, h⟩
theorem u_ge (h : Q (.bl (decide (j ≤ i)))) : Od (oGe (.int i) (.int j) s) Q := ⟨_, rfl, h⟩
theorem u_isN {x : D} (h : Q (.bl (isNonD x))) : Od (oIsN x .non s) Q := ⟨_, rfl, h⟩
theorem u_notN {x : D} (h : Q (.bl (!isNonD x))) : Od (oNotN x .non s) Q := ⟨_, rfl, h⟩
theorem u_now {α : Type} {o : Option α} {a : α} {Q : α → Prop} (e : o = some a) (h : Q a) : Od o Q := ⟨a, e, h⟩
end
theorem mulC_r {i j : Int} (h : -(2 ^ 64) < j) (h' : j < 2 ^ 64) : mulC i j = true := by
  unfold mulC
  rw [decide_eq_true h, decide_eq_true h']
  simp
theorem mulC_l {i j : Int} (h : -(2 ^ 64) < i) (h' : i < 2 ^ 64) : mulC i j = true := by
  unfold mulC
  rw [decide_eq_true h, decide_eq_true h']
  simp
theorem divC_t {i j : Int} (h : 0 < j) (h' : j.natAbs < 2 ^ 9000) : divC i j = true := by
  unfold divC
  rw [decide_eq_true h, decide_eq_true ((Nat.log2_lt (by omega)).mpr h')]
  rfl
theorem divC_s {i j : Int} (h : 0 < j) (h' : j < 2 ^ 100) : divC i j = true :=
  divC_t h (Nat.lt_of_lt_of_le (m := 2 ^ 100) (by omega) (Nat.pow_le_pow_right (by decide) (by decide)))
end LW

/-! LwQ: how a mirror runs, II: comprehensions, makers, lists. -/
namespace LW
open PySem L2
/-- a list of whole numbers, as data or as a cell -/
def IsL (s : Sto) (d : D) (cs : List Int) : Prop := d = .lst (cs.map D.int) ∨ ∃ j, d = .cell j ∧ s[j]? = some (cs.map D.int)
theorem noTag_ints {cs : List Int} : isTag (cs.map D.int) = false := by cases cs <;> rfl
theorem lcG_ints {s : Sto} {j : Nat} {cs : List Int} (e : s[j]? = some (cs.map D.int)) : lcG s j = some (cs.map D.int) := lcG_of e noTag_ints
theorem IsL.get {s : Sto} {d : D} {cs : List Int} (h : IsL s d cs) : lstR s d = some (cs.map D.int) := by
  rcases h with rfl | ⟨j, rfl, e⟩
  · rfl
  · exact lcG_ints e
theorem IsL.ints {s : Sto} {d : D} {cs : List Int} (h : IsL s d cs) : lstI s d = some cs := by
  unfold lstI
  rw [h.get]
  exact intsOf_map _
theorem IsL.ty {s : Sto} {d : D} {cs : List Int} (h : IsL s d cs) : ty7 s d = some .lst := by
  rcases h with rfl | ⟨j, rfl, e⟩
  · rfl
  · show (match lcG s j with | some _ => some Ty7.lst | none => none) = _
    rw [lcG_ints e]
theorem IsL.lst {s : Sto} {cs : List Int} : IsL s (.lst (cs.map D.int)) cs := .inl rfl
theorem IsL.cell {s : Sto} {j : Nat} {cs : List Int} (h : s[j]? = some (cs.map D.int)) : IsL s (.cell j) cs := .inr ⟨j, rfl, h⟩
theorem py_ints {n : Nat} {st : Sto} : ∀ (cs : List Int), mapO (toPy (n + 1) st) (cs.map D.int) = some (cs.map PyData.int)
  | [] => rfl
  | c :: cs => by
    unfold mapO
    rw [List.map_cons]
    dsimp only
    have e : toPy (n + 1) st (.int c) = some (.int c) := by unfold toPy; rfl
    rw [e]
    dsimp only
    rw [py_ints cs]
    rfl
theorem IsL.py {s : Sto} {d : D} {cs : List Int} {n : Nat} (h : IsL s d cs) : toPy (n + 2) s d = some (.list (cs.map PyData.int)) := by
  rcases h with rfl | ⟨j, rfl, e⟩
  · unfold toPy
    dsimp only
    rw [py_ints]
  · unfold toPy
    dsimp only
    rw [lcG_ints e]
    dsimp only
    rw [py_ints]
section
variable {env : Env} {st s : Sto} {fe : SE} {fs : SA} {QI : Src → Sto → Prop} {Q : D → Prop} {f : SS} {d : D} {cs : List Int} {i : Int}
theorem z_rg3 (h : Ok (fs env st) fun ds s => ∃ i j k, ds = [.int i, .int j, .int k] ∧ ((k ≠ 0 ∧ k.natAbs < 1073741824) ∧ Builtin.Range.small i j k = true ∧ Builtin.Range.rangeSize i j k = ((Builtin.Range.rangeSize i j k).toNat : Int)) ∧ QI (rangeD i k (Builtin.Range.rangeSize i j k).toNat, noChk) s) : Ok (iRg3 fs env st) QI := by
  obtain ⟨ds, s1, e1, i, j, k, rfl, r, q⟩ := h
  exact ⟨_, s1, by unfold iRg3; rw [e1]; dsimp only; rw [if_pos r], q⟩
end
end LW

/-! LwR: repr of numbers and lists, as mirrors see it. -/
namespace LW
open PySem L2
structure Sh (p : PyData) (n : Nat) : Prop where
  sh : p.showable = true
  ln : p.shown.length ≤ n
  ok : PyData.strOk p.shown = true
section
variable {s : Sto} {Q : D → Prop} {d : D} {p : PyData} {n : Nat} {x : Str}
end
end LW

/-! LwS: more words: int(..), a <= b <= c, whole numbers of the module, enumerate. -/
namespace LW
open PySem L2 PyProof.Rows
/-! ### int(x) -/
section
variable {mg : Glob} {X : Cx} {e : Expr} {es : List Expr} {p pos : Pos} {f : SA}
end
/-! ### whole numbers of the module -/
/-! ### a op b op c -/
def eChn (p q : Int → Int → Bool) (fa fb fc : SE) : SE := fun env st => match fa env st with
  | some (.int i, s1) => match fb env s1 with
    | some (.int j, s2) => if p i j = true then (match fc env s2 with
      | some (.int k, s3) => some (.bl (q j k), s3)
      | _ => none) else some (.bl false, s2)
    | _ => none
  | _ => none
section
variable {mg : Glob} {X : Cx} {a b c : Expr} {fa fb fc : SE} {p q : Int → Int → Bool} {o o' : CmpOp} {pos : Pos}
theorem r_chn {σ : L2.St} {H : Hp} {Q : VK} (h : tE mg (eChn p q fa fb fc) σ H Q) : tChain (rI0 fun i j => .bl (p i j)) (rI0 fun i j => .bl (q i j)) (tP mg fa) (tP mg fb) (tP mg fc) σ H Q := by
  obtain ⟨E, N, c, env, st, d, st', R, z, k⟩ := h
  unfold eChn at z
  split at z
  · rename_i i s1 z1
    split at z
    · rename_i j s2 z2
      refine ⟨E, N, c, env, st, _, _, R, z1, fun v N1 c1 H1 x1 W1 r1 => ?_⟩
      have R1 := R.ex x1 W1
      refine ⟨E, N1, c1, env, s1, _, _, R1, z2, fun u N2 c2 H2 x2 W2 r2 => ?_⟩
      have R2 := R1.ex x2 W2
      refine ⟨i, j, r1.int, r2.int, _, rfl, ?_⟩
      split at z
      · rename_i hp
        split at z
        · rename_i l s3 z3
          cases z
          rw [if_pos hp]
          refine ⟨E, N2, c2, env, s2, _, _, R2, z3, fun w N3 c3 H3 x3 W3 r3 => ?_⟩
          exact ⟨j, l, r2.int, r3.int, k _ N3 c3 H3 ((x1.trans x2 R.wd).trans x3 R.wd) W3 (.bl _)⟩
        · cases z
      · rename_i hp
        cases z
        rw [if_neg hp]
        exact k _ N2 c2 H2 (x1.trans x2 R.wd) W2 (.bl _)
    · cases z
  · cases z
theorem d_chn (ho : OpR X (compareOp o) (rI0 fun i j => .bl (p i j))) (ho' : OpR X (compareOp o') (rI0 fun i j => .bl (q i j))) (ha : PE X a (tP mg fa)) (hb : PE X b (tP mg fb)) (hc : PE X c (tP mg fc)) (hm : lastMarks [o, o'] [b, c] = false := by with_unfolding_all rfl) :
    PE X (.Compare a [o, o'] [b, c] pos) (tE mg (eChn p q fa fb fc)) := pe_weak (pe_chain ho ho' ha hb hc hm) fun _ _ _ h => r_chn h
end
/-! ### enumerate(list) -/
def enumD : Nat → List D → List D
  | _, [] => []
  | n, x :: r => .tup [.int (n : Nat), x] :: enumD (n + 1) r
theorem enumD_len : ∀ (n : Nat) (xs : List D), (enumD n xs).length = xs.length
  | _, [] => rfl
  | n, x :: r => by
    show (enumD (n + 1) r).length + 1 = r.length + 1
    rw [enumD_len]
theorem enumD_get : ∀ (n : Nat) (xs : List D) (i : Nat) (x : D), xs[i]? = some x → (enumD n xs)[i]? = some (.tup [.int ((n + i : Nat) : Int), x])
  | n, [], i, x, e => by cases e
  | n, y :: r, 0, x, e => by cases e; rfl
  | n, y :: r, i + 1, x, e => by
    show (enumD (n + 1) r)[i]? = _
    rw [enumD_get (n + 1) r i x e, show n + 1 + i = n + (i + 1) by omega]
theorem il_enum {mg : Glob} {N : Prot} {c : List Addr} {H : Hp} {K : PySem.W.Frag} {a : Addr} {vs : List V} {xs : List D} (ha : H a = some (.lst vs)) (n : ¬ N a) (r : RepL mg N c H vs xs) : ItL mg (Ite K a) (enumD 0 xs, noChk) N c H where
  stop := fun N' c' H' st sx _ _ => ⟨vs, SqL.of (sx.keep a _ ha n), by show vs.length ≤ (enumD 0 xs).length; rw [enumD_len, r.length]; exact Nat.le_refl _⟩
  go := fun i N' c' H' st hi sx _ _ => by
    have hi : i < xs.length := by rw [← enumD_len 0 xs]; exact hi
    obtain ⟨v, hv, _⟩ := r.get (List.getElem?_eq_getElem hi)
    exact ⟨vs, v, SqL.of (sx.keep a _ ha n), hv⟩
  yld := fun i N' c' H' st x H2 hi sx W _ y => by
    have hi : i < xs.length := by rw [← enumD_len 0 xs]; exact hi
    obtain ⟨T, x0, rfl, hT, rfl, hy⟩ := y
    obtain ⟨v, hv, rv⟩ := r.get (List.getElem?_eq_getElem hi)
    have e := hy vs (SqL.of (sx.keep a _ ha n))
    rw [hv] at e
    cases e
    refine ⟨_, enumD_get 0 xs i _ (List.getElem?_eq_getElem hi), Ex.laid W hT, W.laid hT, ?_⟩
    rw [Nat.zero_add]
    exact Rep.laidT W hT (.cons (.int _) (.cons (rv.tr sx.tr) .nil))
def iEnm (f : SA) : Fx Src := fun env st => match f env st with
  | some ([.lst xs], s1) => some ((enumD 0 xs, noChk), s1)
  | _ => none
section
variable {mg : Glob} {X : Cx} {e : Expr} {elts : List Expr} {kk : Nat} {p pos tpos : Pos} {f : SA}
theorem i_enum (hm : X.mg "enumerate" = none) (ha : PA X [e] (tA mg f)) (hg : Gl X "enumerate" := by rfl) (hs : starEach [e] X.env = [(false, eval e X.env)] := by rfl) : PI X (.Tuple elts kk tpos) (.Call (.Name "enumerate" p) [e] [] pos) (tI mg (iEnm f)) :=
  pi_weak (pi_enum hg hm ha hs) fun σ H R' ⟨E, N, c, env, st, xs, st', R, q, k⟩ => by
    unfold iEnm at q
    split at q
    · rename_i ys s1 q1
      cases q
      refine ⟨E, N, c, env, st, _, _, R, q1, fun vs N1 c1 H1 x1 W1 r1 => ?_⟩
      cases r1 with
      | cons r rr =>
        cases rr
        cases r with
        | lst ha n r => exact ⟨_, _, rfl, SqL.of ha, k _ N1 c1 H1 x1 W1 (il_enum ha n r)⟩
    · cases q
end
end LW

/-! LwT: sorted(set(list of whole numbers)). -/
namespace LW
open PySem L2 PySem.Spec PyProof.Rows
section
variable {P : Program} {w : World} {A : Around} {E : Value → Shared → Prop} {s : Shared}
/-- a new set, and the heap with it -/
abbrev nS (w : World) : Obj := { cls := .type "set", dict := none, data := .set #[] 0 (.fresh 0 0 (!w.params.followText "set-order")) }
abbrev pS (w : World) (s : Shared) : Heap := s.heap.push (nS w)
end
end LW

/-! LwU: sorted(set(..)) as a reading and as plain data. -/
namespace LW
open PySem L2 PySem.Spec PyProof.Rows
/-! ### the plain word -/
/-! ### the reading -/
section
variable {X : Cx}
end
/-! ### and as data -/
end LW

/-! LwV: sorted(list of whole numbers). -/
namespace LW
open PySem L2 PySem.Spec PyProof.Rows
section
variable {mg : Glob} {X : Cx} {e : Expr} {es : List Expr} {p pos : Pos} {f : SA}
end
end LW

/-! LwW: sorted(set(..)) of longer lists with few members; xs[::-1]. -/
namespace LW
open PySem L2 PySem.Spec PyProof.Rows
section
variable {X : Cx}
end
/-! ### xs[::-1] -/
end LW

/-! LwX: a, b, c = x, y, z. -/
namespace LW
open PySem L2 PySem.Spec PyProof.Rows
def sPar3 (i j l : Nat) (fa fb fc : SE) : SS := fun env st => match fa env st with
  | some (x, s1) => match fb env s1 with
    | some (y, s2) => match fc env s2 with
      | some (z, s3) => some (.nx (((env.set i (.val x)).set j (.val y)).set l (.val z)), s3)
      | none => none
    | none => none
  | none => none
section
variable {mg : Glob} {X : Cx} {a b c : Expr} {pos : Pos} {fa fb fc : SE}
end
theorem z_par3 {i j l : Nat} {fa fb fc : SE} {env : LW.Env} {st : Sto} {QS : Out → Sto → Prop} (h : Ok (fa env st) fun x s1 => Ok (fb env s1) fun y s2 => Ok (fc env s2) fun z s3 => QS (.nx (((env.set i (.val x)).set j (.val y)).set l (.val z))) s3) : Ok (sPar3 i j l fa fb fc env st) QS := by
  obtain ⟨x, s1, e1, y, s2, e2, z, s3, e3, q⟩ := h
  exact ⟨_, s3, by unfold sPar3; rw [e1]; dsimp only; rw [e2]; dsimp only; rw [e3], q⟩
end LW

/-! LwYa: texts: in, walks over signs, sorted; insert; where a recursion ends. -/
namespace LW
open PySem L2 PyProof.Rows PySem.Spec
/-! ### texts in lists -/
def strsOf : List D → Option (List Str)
  | [] => some []
  | .str x :: r => (match strsOf r with
    | some xs => some (x :: xs)
    | none => none)
  | _ => none
theorem strsOf_eq : ∀ {xs : List D} {zs : List Str}, strsOf xs = some zs → xs = zs.map D.str
  | [], _, e => by cases e; rfl
  | d :: r, zs, e => by
    cases d with
    | str x =>
      unfold strsOf at e
      split at e
      · rename_i ys h
        cases e
        rw [strsOf_eq h]
        rfl
      · cases e
    | _ => cases e
section
variable {mg : Glob} {N : Prot} {c : List Addr} {H : Hp} {st : Sto} {u : V} {x : D}
theorem RepL.strs : ∀ (zs : List Str), RepL mg N c H (zs.map V.str) (zs.map D.str)
  | [] => .nil
  | z :: r => .cons (.str z) (RepL.strs r)
theorem RepL.of_strs : ∀ {zs : List Str} {vs : List V}, RepL mg N c H vs (zs.map D.str) → vs = zs.map V.str
  | [], _, .nil => rfl
  | z :: r, _, .cons (.str _) t => by rw [RepL.of_strs t]; rfl
end
def lstS (st : Sto) (x : D) : Option (List Str) := match lstR st x with
  | some xs => strsOf xs
  | none => none
theorem RepT.strs {mg : Glob} {N : Prot} {c : List Addr} {H : Hp} {st : Sto} {u : V} {x : D} {zs : List Str} (W : Wd mg N c H st) (h : RepT mg N c H u x) (e : lstS st x = some zs) : ∃ a, u = .ref a ∧ SqL mg.K H a (zs.map V.str) := by
  unfold lstS at e
  split at e
  · rename_i xs hx
    obtain ⟨a, vs, rfl, ha, r⟩ := RepT.read W h hx
    rw [strsOf_eq e] at r
    rw [r.of_strs] at ha
    exact ⟨a, rfl, ha⟩
  · cases e
/-! ### in -/
/-- a text in a tuple of texts -/
def oInT (neg : Bool) : D → D → Sto → Option D := fun x y _ => match x, y with
  | .str z, .tup ys => (match strsOf ys with
    | some zs => some (.bl (if neg then !decide (z ∈ zs) else decide (z ∈ zs)))
    | none => none)
  | _, _ => none
theorem any_eqV {z : Str} : ∀ (zs : List Str), inV (.str z) (zs.map V.str) = decide (z ∈ zs)
  | [] => rfl
  | y :: r => by
    have ih := any_eqV (z := z) r
    unfold inV at ih ⊢
    rw [List.map_cons, List.any_cons, ih]
    show ((y == z) || decide (z ∈ r)) = _
    by_cases e : y = z
    · subst e; simp
    · have e2 : ¬ z = y := fun q => e q.symm
      simp [e, e2]
theorem all_flat : ∀ (zs : List Str), (zs.map V.str).all flatV = true
  | [] => rfl
  | z :: r => by
    rw [List.map_cons, List.all_cons, all_flat r]
    rfl
theorem ok_inT {mg : Glob} {neg : Bool} : OpOk mg (RE mg) (rIn mg.K neg) (oInT neg) := by
  intro N c H st u v x y d Q W p1 p2 e k
  unfold oInT at e
  split at e
  · rename_i z ys
    split at e
    · rename_i zs hz
      cases e
      obtain ⟨a, vs, rfl, ha, r⟩ := p2.tup
      rw [strsOf_eq hz] at r
      have ev := r.of_strs
      subst ev
      refine ⟨a, _, rfl, .inr (SqT.of ha), by rw [p1.str]; rfl, all_flat _, ?_⟩
      rw [p1.str, any_eqV]
      exact k _ N c H Ex.refl W (.bl _)
    · cases e
  · cases e
/-- data in a list -/
def oInL (neg : Bool) : D → D → Sto → Option D := fun x y st => match toPy 60 st x, toPy 60 st y with
  | some p, some (.list ds) => some (.bl (if neg then !ds.any fun z => PyData.eqv z p else ds.any fun z => PyData.eqv z p))
  | _, _ => none
theorem ok_ninL {mg : Glob} : OpOk mg (RE mg) (rNotInD mg.K) (oInL true) := by
  intro N c H st u v x y d Q W p1 p2 e k
  unfold oInL at e
  split at e
  · rename_i p ds hp hd
    cases e
    exact ⟨p, ds, dp_T W p1 hp, dp_T W p2 hd, toPy_shaped hp, toPy_shaped hd, k _ N c H Ex.refl W (.bl _)⟩
  · cases e
/-- one sign in a text -/
def oInS (neg : Bool) : D → D → Sto → Option D := fun x y _ => match x, y with
  | .str z, .str t => (match z.cps.toList with
    | [ch] => some (.bl (if neg then !decide (ch ∈ t.cps.toList) else decide (ch ∈ t.cps.toList)))
    | _ => none)
  | _, _ => none
theorem one_sign {z : Str} {ch : Nat} (h : z.cps.toList = [ch]) : z = ⟨#[ch]⟩ := by
  cases z with
  | mk a =>
    congr 1
    exact Array.toList_inj.mp h
theorem ok_ninS {mg : Glob} : OpOk mg (RE mg) (fun x y H Q => ∃ (c : Nat) (z : Str), x = .str ⟨#[c]⟩ ∧ y = .str z ∧ Q (.bl (!decide (c ∈ z.cps.toList))) H) (oInS true) := by
  intro N c H st u v x y d Q W p1 p2 e k
  unfold oInS at e
  split at e
  · rename_i z t
    split at e
    · rename_i ch hc
      cases e
      exact ⟨ch, t, by rw [p1.str, one_sign hc], p2.str, k _ N c H Ex.refl W (.bl _)⟩
    · cases e
  · cases e
section
variable {mg : Glob} {X : Cx} {a b : Expr} {pos : Pos} {fa fb : SE}
theorem d_inT (ha : PE X a (tP mg fa)) (hb : PE X b (tP mg fb)) (hK : X.K = mg.K := by rfl) (hn : lastMarks [.In] [b] = false := by rfl) : PE X (.Compare a [.In] [b] pos) (tE mg (eOp (oInT false) fa fb)) := d_cmp (hK ▸ op_in_seq) ok_inT back_E ha hb hn
theorem d_ninL (hu : X.A.units + 65 < cLine) (ha : PE X a (tP mg fa)) (hb : PE X b (tP mg fb)) (hK : X.K = mg.K := by rfl) (hn : lastMarks [.NotIn] [b] = false := by rfl) : PE X (.Compare a [.NotIn] [b] pos) (tE mg (eOp (oInL true) fa fb)) := d_cmp (hK ▸ op_notInD hu) ok_ninL back_E ha hb hn
theorem d_ninS (ha : PE X a (tP mg fa)) (hb : PE X b (tP mg fb)) (hn : lastMarks [.NotIn] [b] = false := by rfl) : PE X (.Compare a [.NotIn] [b] pos) (tE mg (eOp (oInS true) fa fb)) := d_cmp op_notIn_sign ok_ninS back_E ha hb hn
end
/-! ### a text of the module; walks over signs -/
def GS (mg : Str → Option Value) (x : Str) (z : Str) : Prop := ∃ t, mg x = some (.str z t)
theorem d_gstr {mg : Glob} {X : Cx} {x z : Str} {pos : Pos} (h : GS X.mg x z) (hg : Gl X x := by rfl) (hd : (x == ("__debug__" : Str)) = false := by decide) : PE X (.Name x pos) (tE mg (eC (.str z))) := by
  obtain ⟨t, h⟩ := h
  exact d_glob (v := .str z) hg h ⟨t, rfl⟩ (fun _ _ _ => .str z) hd
def signsD (x : Str) : List D := x.cps.toList.map fun ch => D.str ⟨#[ch]⟩
def iSgn (f : SE) : Fx Src := fun env st => match f env st with
  | some (.str x, s1) => some ((signsD x, noChk), s1)
  | _ => none
theorem il_str {mg : Glob} {N : Prot} {c : List Addr} {H : Hp} {x : Str} : ItL mg (Its x) (signsD x, noChk) N c H where
  stop := fun N' c' H' st _ _ _ => by
    show x.cps.size ≤ (signsD x).length
    unfold signsD
    rw [List.length_map, Array.length_toList]
    exact Nat.le_refl _
  go := fun i N' c' H' st hi _ _ _ => by
    show i < x.cps.size
    have : i < (signsD x).length := hi
    unfold signsD at this
    rwa [List.length_map, Array.length_toList] at this
  yld := fun i N' c' H' st v H2 hi _ W _ y => by
    obtain ⟨rfl, ch, hc, rfl⟩ := y
    refine ⟨_, ?_, Ex.refl, W, .str ⟨#[ch]⟩⟩
    show (signsD x)[i]? = _
    unfold signsD
    rw [List.getElem?_map, Array.getElem?_toList, hc]
    rfl
theorem i_str {mg : Glob} {X : Cx} {tg e : Expr} {f : SE} (he : PE X e (tP mg f)) : PI X tg e (tI mg (iSgn f)) := pi_weak (pi_str he) fun σ H R ⟨E, N, c, env, st, xs, st', Rl, q, k⟩ => by
  unfold iSgn at q
  split at q
  · rename_i x s1 q1
    cases q
    exact ⟨E, N, c, env, st, _, _, Rl, q1, fun v N1 c1 H1 x1 W1 r1 => ⟨x, r1.str, k _ N1 c1 H1 x1 W1 il_str⟩⟩
  · cases q
/-! ### sorted texts -/
abbrev cpL (a : Str) : List Nat := a.cps.toList
theorem cpL_inj {a b : Str} (h : cpL a = cpL b) : a = b := by
  cases a with
  | mk x => cases b with
    | mk y => exact congrArg _ (Array.toList_inj.mp h)
def leS (a b : Str) : Prop := cpL a ≤ cpL b
instance {a b : Str} : Decidable (leS a b) := inferInstanceAs (Decidable (cpL a ≤ cpL b))
theorem leS_trans {a b d : Str} (h : leS a b) (h' : leS b d) : leS a d := List.le_trans h h'
theorem leS_total (a b : Str) : leS a b ∨ leS b a := List.le_total _ _
theorem leS_anti {a b : Str} (h : leS a b) (h' : leS b a) : a = b := cpL_inj (List.le_antisymm h h')
theorem lt_leS {a b : Str} (h : ltCps (cpL b) (cpL a) = false) : leS a b := by
  rw [ltCps_eq] at h
  exact List.not_lt.mp (of_decide_eq_false h)
def insS (x : Str) : List Str → List Str
  | [] => [x]
  | y :: r => if leS x y then x :: y :: r else y :: insS x r
def sortS (zs : List Str) : List Str := zs.foldr insS []
theorem perm_insS {x : Str} : ∀ {l : List Str}, (insS x l).Perm (x :: l)
  | [] => List.Perm.refl _
  | y :: r => by
    unfold insS
    split
    · exact List.Perm.refl _
    · exact (List.Perm.cons y perm_insS).trans (List.Perm.swap x y r)
theorem perm_sortS : ∀ {l : List Str}, (sortS l).Perm l
  | [] => List.Perm.refl _
  | x :: r => perm_insS.trans (List.Perm.cons x perm_sortS)
theorem pw_insS {x : Str} : ∀ {l : List Str}, l.Pairwise leS → (insS x l).Pairwise leS
  | [], _ => List.pairwise_singleton _ _
  | y :: r, h => by
    obtain ⟨h1, h2⟩ := List.pairwise_cons.mp h
    unfold insS
    split
    · rename_i hx
      refine List.pairwise_cons.mpr ⟨fun z hz => ?_, h⟩
      rcases List.mem_cons.mp hz with rfl | hz
      · exact hx
      · exact leS_trans hx (h1 z hz)
    · rename_i hx
      have hyx : leS y x := (leS_total x y).resolve_left hx
      refine List.pairwise_cons.mpr ⟨fun z hz => ?_, pw_insS h2⟩
      rcases List.mem_cons.mp (perm_insS.mem_iff.mp hz) with rfl | hz
      · exact hyx
      · exact h1 z hz
theorem pw_sortS : ∀ {l : List Str}, (sortS l).Pairwise leS
  | [] => List.Pairwise.nil
  | x :: r => pw_insS (pw_sortS (l := r))
theorem sortS_uniq {l m : List Str} (hp : l.Perm m) (hl : l.Pairwise leS) : l = sortS m :=
  (hp.trans perm_sortS.symm).eq_of_pairwise (le := leS) (fun a b _ _ h1 h2 => leS_anti h1 h2) hl pw_sortS
theorem rising_pw : ∀ (r : List Str) (p : Str), risingS p r = true → (p :: r).Pairwise leS
  | [], p, _ => List.pairwise_singleton _ _
  | x :: r, p, h => by
    unfold risingS at h
    rw [Bool.and_eq_true] at h
    have ih := rising_pw r x h.2
    have px : leS p x := lt_leS (by simpa using h.1)
    refine List.pairwise_cons.mpr ⟨fun z hz => ?_, ih⟩
    rcases List.mem_cons.mp hz with rfl | hz
    · exact px
    · exact leS_trans px ((List.pairwise_cons.mp ih).1 z hz)
theorem sorted_pw : ∀ (l : List Str), sortedS l = true → l.Pairwise leS
  | [], _ => List.Pairwise.nil
  | x :: r, h => rising_pw r x h
def gSortS : List D → Sto → Option (List D) := fun ds st => match ds with
  | [x] => (match lstS st x with
    | some zs => if zs.length < 64 then some ((sortS zs).map D.str) else none
    | none => none)
  | _ => none
theorem ok_sortS {mg : Glob} : BiOk mg (RN mg) (rSortedS mg.K) gSortS := by
  intro N c H st us ds d Q W p q k
  unfold gSortS at q
  split at q
  · split at q
    · rename_i zs hn
      split at q
      · rename_i hl
        cases q
        obtain ⟨u, rfl, h⟩ := tl1 p
        obtain ⟨a, rfl, ha⟩ := h.strs W hn
        refine ⟨a, zs, rfl, ha, hl, fun ys p hp hs hl => ?_⟩
        rw [sortS_uniq hp (sorted_pw ys hs)]
        exact k _ _ _ _ (Ex.laidN W hl) (W.laidN hl) (RN.laid W hl (RepL.strs _))
      · cases q
    · cases q
  · cases q
section
variable {mg : Glob} {X : Cx} {e : Expr} {es : List Expr} {p pos : Pos} {f : SA}
theorem d_sortS (hm : X.mg "sorted" = none) (ha : PA X (e :: es) (tAP mg f)) (hg : Gl X "sorted" := by rfl) (he : starEach (e :: es) X.env = (false, eval e X.env) :: starEach es X.env := by rfl) (hpl : (backTo pos (starEach es X.env)).any (·.1) = false := by rfl) (hK : X.K = mg.K := by rfl) : PE X (.Call (.Name "sorted" p) (e :: es) [] pos) (tL mg (eBi gSortS f)) :=
  d_bi (hK ▸ cr_sortedS) ok_sortS back_N hg hm (by decide +kernel) ha (by decide) (by decide) he hpl
end
/-! ### where a recursion ends -/
theorem okF_0 {P : Program} {w : World} {K : PySem.W.Frag} {mg : Str → Option Value} {base : Heap} {k : Nat} {x : Str} {st : Stmt} {ps : List Str} (F : FT K mg x st)
    (hb : ∀ (kV doc pm : Value) (an : Option Addr) (cdv ct : Value) (us : List Value), us.length = ps.length → bindArgs (PySem.W.fnOf x x (defArgs st) (defBody st) (defScope st) .none kV doc pm an cdv ct) ⟨us, []⟩ = pure (ps.zip us)) : OkF P w K mg base k x ps (fun _ _ => none) := by
  obtain ⟨f, fd, hm, F⟩ := F
  refine ⟨f, fd, hm, F.kp, ⟨fun vs H Q E h => h.1, fun A outer s H args us vs Q E _ _ _ _ h => ?_⟩, F.binds hb, fun _ _ _ e => by cases e⟩
  obtain ⟨_, N, c, ds, st, d, st', _, _, q, _⟩ := h
  cases q
theorem OkF.mono {P : Program} {w : World} {K : PySem.W.Frag} {mg : Str → Option Value} {base : Heap} {j k : Nat} {x : Str} {ps : List Str} {g : FM} (h : OkF P w K mg base j x ps g) (hl : j ≤ k) : OkF P w K mg base k x ps g := by
  obtain ⟨f, fd, hm, hk, F, hb, ar⟩ := h
  exact ⟨f, fd, hm, hk, F.mono hl, hb, ar⟩
/-! ### insert -/
section
variable {mg : Glob} {X : Cx} {e ej : Expr} {pos apos cpos : Pos} {fe fj : SE}
end
end LW

/-! LwYb: dicts whose keys are numbers and texts: as data. -/
namespace LW
open PySem L2 PyProof.Rows
abbrev DK := List Key × List D
instance memKdec (x : Key) (ks : List Key) : Decidable (x ∈ ks) := decidable_of_iff ((ks.any fun y => decide (y = x)) = true) (by
  rw [List.any_eq_true]
  exact ⟨fun ⟨y, h, e⟩ => of_decide_eq_true e ▸ h, fun h => ⟨x, h, decide_eq_true rfl⟩⟩)
/-! ### plain words -/
def keyD : D → Option Key
  | .int i => some (.inl i)
  | .str z => some (.inr z)
  | _ => none
def keyV : Key → D
  | .inl i => .int i
  | .inr z => .str z
theorem keyD_V {k : Key} : keyD (keyV k) = some k := by cases k <;> rfl
theorem keyD_eq {d : D} {k : Key} (h : keyD d = some k) : d = keyV k := by
  cases d <;> first | (cases h; rfl) | cases h
def getD : List Key → List D → Key → Option D
  | k :: ks, d :: ds, x => if k = x then some d else getD ks ds x
  | _, _, _ => none
def putV : List Key → List D → Key → D → List D
  | k :: ks, d :: ds, x, y => (if k = x then y else d) :: putV ks ds x y
  | _, _, _, _ => []
def putKD (p : DK) (x : Key) (y : D) : DK := if x ∈ p.1 then (p.1, putV p.1 p.2 x y) else (p.1 ++ [x], p.2 ++ [y])
def mergeD (acc : DK) (l : List (Key × D)) : DK := l.foldl (fun a kv => putKD a kv.1 kv.2) acc
section
variable {mg : Glob} {N : Prot} {c : List Addr} {H : Hp} {st : Sto} {u : V} {x : D}
theorem RepT.key {k : Key} (h : RepT mg N c H u x) (e : keyD x = some k) : u = kV k := by
  have := keyD_eq e
  subst this
  cases k with
  | inl i => exact h.int
  | inr z => exact h.str
theorem Rep.key {k : Key} : Rep mg N c H (kV k) (keyV k) := by
  cases k with
  | inl i => exact .int i
  | inr z => exact .str z
theorem RepT.dic {ks : List Key} {ds : List D} (h : RepT mg N c H u (.dic ks ds)) : ∃ a kvs, u = .ref a ∧ Rd H a (.dK kvs) ∧ kvs.map (·.1) = ks ∧ RepL mg N c H (kvs.map (·.2)) ds := by
  rcases h with h | ⟨_, _, _, _, e, _⟩
  · cases h with
    | dic h n hn r => exact ⟨_, _, rfl, .inl h, hn, r⟩
    | dfz h n hn r => exact ⟨_, _, rfl, .inr ⟨_, h⟩, hn, r⟩
  · cases e
theorem get_rel : ∀ {kvs : List (Key × V)} {ds : List D} {k : Key} {d : D}, RepL mg N c H (kvs.map (·.2)) ds → getD (kvs.map (·.1)) ds k = some d → ∃ v, valV kvs k = some v ∧ Rep mg N c H v d
  | [], _, _, _, _, e => by cases e
  | kv :: r, _, k, d, .cons h t, e => by
    rw [List.map_cons] at e
    unfold getD at e
    split at e
    · rename_i hk
      cases e
      exact ⟨kv.2, valV_pos hk, h⟩
    · rename_i hk
      obtain ⟨v, e1, r1⟩ := get_rel t e
      exact ⟨v, by rw [valV_neg hk]; exact e1, r1⟩
theorem any_mem {kvs : List (Key × V)} {k : Key} : (kvs.any fun kv => decide (kv.1 = k)) = decide (k ∈ kvs.map (·.1)) := by
  rw [List.any_eq, decide_eq_decide]
  constructor
  · rintro ⟨kv, h1, h2⟩
    exact List.mem_map.mpr ⟨kv, h1, of_decide_eq_true h2⟩
  · intro h
    obtain ⟨kv, h1, h2⟩ := List.mem_map.mp h
    exact ⟨kv, h1, decide_eq_true h2⟩
theorem has_rel {kvs : List (Key × V)} {k : Key} : (valV kvs k).isSome = decide (k ∈ kvs.map (·.1)) := by rw [← valV_any, any_mem]
theorem putV_rel {v : V} {d : D} {k : Key} (h : Rep mg N c H v d) : ∀ {kvs : List (Key × V)} {ds : List D}, RepL mg N c H (kvs.map (·.2)) ds → RepL mg N c H ((kvs.map (fun kv => if kv.1 = k then (kv.1, v) else kv)).map (·.2)) (putV (kvs.map (·.1)) ds k d)
  | [], _, .nil => .nil
  | kv :: r, _, .cons q t => by
    rw [List.map_cons, List.map_cons, List.map_cons]
    unfold putV
    by_cases e : kv.1 = k
    · rw [if_pos e, if_pos e]
      exact .cons h (putV_rel h t)
    · rw [if_neg e, if_neg e]
      exact .cons q (putV_rel h t)
theorem put_rel {v : V} {d : D} {k : Key} {kvs : List (Key × V)} {ds : List D} (h : Rep mg N c H v d) (r : RepL mg N c H (kvs.map (·.2)) ds) : (putK kvs k v).map (·.1) = (putKD (kvs.map (·.1), ds) k d).1 ∧ RepL mg N c H ((putK kvs k v).map (·.2)) (putKD (kvs.map (·.1), ds) k d).2 := by
  unfold putK putKD
  rw [any_mem]
  by_cases e : k ∈ kvs.map (·.1)
  · rw [if_pos (decide_eq_true e), if_pos e]
    refine ⟨?_, putV_rel h r⟩
    rw [List.map_map]
    refine List.map_congr_left fun kv _ => ?_
    show (if kv.1 = k then (kv.1, v) else kv).1 = kv.1
    split <;> rfl
  · rw [if_neg (by rw [decide_eq_false e]; exact Bool.false_ne_true), if_neg e]
    exact ⟨by rw [List.map_append]; rfl, by rw [List.map_append]; exact r.append (.cons h .nil)⟩
theorem merge_rel : ∀ {l : List (Key × D)} {more : List (Key × V)} {kvs : List (Key × V)} {ds : List D}, RepL mg N c H (kvs.map (·.2)) ds → more.map (·.1) = l.map (·.1) → RepL mg N c H (more.map (·.2)) (l.map (·.2)) → (mergeK kvs more).map (·.1) = (mergeD (kvs.map (·.1), ds) l).1 ∧ RepL mg N c H ((mergeK kvs more).map (·.2)) (mergeD (kvs.map (·.1), ds) l).2
  | [], [], kvs, ds, r, _, _ => ⟨rfl, r⟩
  | [], _ :: _, _, _, _, e, _ => by cases e
  | _ :: _, [], _, _, _, e, _ => by cases e
  | kd :: l, kv :: more, kvs, ds, r, e, .cons h t => by
    have e1 : kv.1 = kd.1 := by injection e
    have e2 : more.map (·.1) = l.map (·.1) := by injection e
    obtain ⟨p1, p2⟩ := put_rel (k := kd.1) h r
    show (mergeK (putK kvs kv.1 kv.2) more).map (·.1) = (mergeD (putKD (kvs.map (·.1), ds) kd.1 kd.2) l).1 ∧ RepL mg N c H ((mergeK (putK kvs kv.1 kv.2) more).map (·.2)) (mergeD (putKD (kvs.map (·.1), ds) kd.1 kd.2) l).2
    rw [e1]
    have ih := merge_rel (l := l) (more := more) p2 e2 t
    rw [p1] at ih
    exact ih
end
/-! ### a new dict -/
def RD (mg : Glob) : Told DK := fun _ _ H N' c' H' v d => ∃ p kvs, v = .ref p ∧ H p = none ∧ N' p ∧ p ∉ c' ∧ H' p = some (.dK kvs) ∧ kvs.map (·.1) = d.1 ∧ RepL mg N' c' H' (kvs.map (·.2)) d.2
abbrev tD (mg : Glob) (f : Fx DK) : TE := tX mg (RD mg) f
def eD (f : Fx DK) : SE := fun env st => (f env st).map fun p => (.dic p.1.1 p.1.2, p.2)
section
variable {mg : Glob} {N N' : Prot} {c c' : List Addr} {H H' : Hp} {st st' : Sto} {v : V} {X : Cx} {e : Expr}
theorem RD.give {d : DK} (W : Wd mg N c H st) (x : Ex N c H N' c' H') (W' : Wd mg N' c' H' st') (h : RD mg N c H N' c' H' v d) : ∃ N'', Ex N c H N'' c' H' ∧ Wd mg N'' c' H' st' ∧ Rep mg N'' c' H' v (.dic d.1 d.2) := by
  obtain ⟨p, kvs, rfl, hp, np, nc, hv, hm, r⟩ := h
  have less : ∀ a, (N' a ∧ a ≠ p) → N' a := fun a z => z.1
  refine ⟨fun a => N' a ∧ a ≠ p, ⟨x.keep, fun a z => x.new a z.1, fun a z => ⟨x.mono a z, fun e => W.trk a z (by rw [e]; exact hp)⟩, x.pre, x.newc⟩, W'.less less fun a z => ⟨W'.cn a z, fun e => nc (e ▸ z)⟩, ?_⟩
  exact .dic hv (fun z => z.2 rfl) hm (r.tr (Tr.less less))
theorem d_giveD {f : Fx DK} (h : PE X e (tD mg f)) : PE X e (tE mg (eD f)) := pe_weak h fun σ H Q ⟨E, N, c, env, st, d, st', R, q, k⟩ => by
  unfold eD at q
  cases qf : f env st with
  | none => rw [qf] at q; cases q
  | some p =>
    obtain ⟨xs, s1⟩ := p
    rw [qf] at q
    cases q
    refine ⟨E, N, c, env, st, xs, _, R, qf, fun v N' c' H' x W r => ?_⟩
    obtain ⟨N'', x2, W2, r2⟩ := r.give R.wd x W
    exact k v N'' c' H' x2 W2 r2
theorem RD.laid {kvs : List (Key × V)} {d : DK} {p : Addr} (W : Wd mg N c H st) (hp : H p = none) (hm : kvs.map (·.1) = d.1) (r : RepL mg N c H (kvs.map (·.2)) d.2) : RD mg N c H (fun a => N a ∨ a = p) c (upd H p (.dK kvs)) (.ref p) d :=
  ⟨p, kvs, rfl, hp, .inr rfl, W.cnone hp, upd_same, hm, r.tr ((Ex.laidN W hp).tr W)⟩
end
/-! ### dict(list of pairs), dict(d), {} -/
/-- a dict that may be read -/
def dicG (st : Sto) : D → Option DK
  | .dic ks ds => some (ks, ds)
  | .dcl k => dcG st k
  | _ => none
theorem RepT.dicG {mg : Glob} {N : Prot} {c : List Addr} {H : Hp} {st : Sto} {u : V} {x : D} {p : DK} (W : Wd mg N c H st) (h : RepT mg N c H u x) (e : dicG st x = some p) : ∃ a kvs, u = .ref a ∧ Rd H a (.dK kvs) ∧ kvs.map (·.1) = p.1 ∧ RepL mg N c H (kvs.map (·.2)) p.2 := by
  cases x with
  | dic ks ds => cases e; exact h.dic
  | dcl k =>
    rcases h with h | ⟨_, _, _, _, z, _⟩
    · cases h with
      | dcl hc =>
        obtain ⟨kvs, ha, hn, r⟩ := W.dcG hc e
        exact ⟨_, kvs, rfl, ha, hn, r⟩
    · cases z
  | _ => cases e
def lD0 : Fx DK := fun _ st => some (([], []), st)
section
variable {mg : Glob} {X : Cx} {e : Expr} {es : List Expr} {p pos : Pos} {f : SA}
end
/-! ### d[k], k in d -/
def oDx : D → D → Sto → Option D := fun x y st => match dicG st x with
  | some p => (match keyD y with
    | some k => getD p.1 p.2 k
    | none => none)
  | none => none
def oInK (neg : Bool) : D → D → Sto → Option D := fun y x st => match dicG st x with
  | some p => (match keyD y with
    | some k => some (.bl (if neg then !decide (k ∈ p.1) else decide (k ∈ p.1)))
    | none => none)
  | none => none
theorem ok_dx {mg : Glob} : OpOk mg (RE mg) (fun x y H Q => ∃ a v, x = .ref a ∧ DGet H a y (some v) ∧ Q v H) oDx := by
  intro N c H st u v x y d Q W p1 p2 e k
  unfold oDx at e
  split at e
  · rename_i p hp
    split at e
    · rename_i kk hk
      obtain ⟨a, kvs, rfl, ha, hn, r⟩ := RepT.dicG W p1 hp
      rw [← hn] at e
      obtain ⟨w, hw, rw_⟩ := get_rel r e
      exact ⟨a, w, rfl, .inl ⟨kvs, kk, ha, p2.key hk, hw.symm⟩, k w N c H Ex.refl W rw_⟩
    · cases e
  · cases e
theorem ok_inK {mg : Glob} : OpOk mg (RE mg) (fun y x H Q => ∃ a o, x = .ref a ∧ DGet H a y o ∧ Q (.bl o.isSome) H) (oInK false) := by
  intro N c H st u v y x d Q W p1 p2 e k
  unfold oInK at e
  split at e
  · rename_i p hp
    split at e
    · rename_i kk hk
      cases e
      obtain ⟨a, kvs, rfl, ha, hn, r⟩ := RepT.dicG W p2 hp
      refine ⟨a, _, rfl, .inl ⟨kvs, kk, ha, p1.key hk, rfl⟩, ?_⟩
      rw [has_rel, hn]
      exact k _ N c H Ex.refl W (.bl _)
    · cases e
  · cases e
theorem ok_ninK {mg : Glob} : OpOk mg (RE mg) (fun y x H Q => ∃ a o, x = .ref a ∧ DGet H a y o ∧ Q (.bl (!o.isSome)) H) (oInK true) := by
  intro N c H st u v y x d Q W p1 p2 e k
  unfold oInK at e
  split at e
  · rename_i p hp
    split at e
    · rename_i kk hk
      cases e
      obtain ⟨a, kvs, rfl, ha, hn, r⟩ := RepT.dicG W p2 hp
      refine ⟨a, _, rfl, .inl ⟨kvs, kk, ha, p1.key hk, rfl⟩, ?_⟩
      rw [has_rel, hn]
      exact k _ N c H Ex.refl W (.bl _)
    · cases e
  · cases e
section
variable {mg : Glob} {X : Cx} {a b : Expr} {pos : Pos} {fa fb : SE}
theorem d_dx (hu : X.A.units + 1 < cLine) (ha : PE X a (tP mg fa)) (hb : PE X b (tP mg fb)) (hs : NoSl b := by exact fun _ _ => rfl) : PE X (.Subscript a b pos) (tE mg (eOp oDx fa fb)) := pe_weak (pe_dget hu ha hb hs) fun _ _ _ h => r_op ok_dx back_E h
theorem d_inK (hu : X.A.units + 1 < cLine) (ha : PE X a (tP mg fa)) (hb : PE X b (tP mg fb)) (h1 : behindInMarks .In b = false := by rfl) : PE X (.Compare a [.In] [b] pos) (tE mg (eOp (oInK false) fa fb)) := pe_weak (pe_cmp (pc_din hu ha hb) h1) fun _ _ _ h => r_op ok_inK back_E h
theorem d_ninK (hu : X.A.units + 1 < cLine) (ha : PE X a (tP mg fa)) (hb : PE X b (tP mg fb)) (h1 : behindInMarks .NotIn b = false := by rfl) : PE X (.Compare a [.NotIn] [b] pos) (tE mg (eOp (oInK true) fa fb)) := pe_weak (pe_cmp (pc_dnotin hu ha hb) h1) fun _ _ _ h => r_op ok_ninK back_E h
end
/-! ### sorted(d) -/
def strKeys : List Key → Option (List Str)
  | [] => some []
  | .inr z :: r => (match strKeys r with
    | some l => some (z :: l)
    | none => none)
  | _ => none
theorem strKeys_eq : ∀ {ks : List Key} {zs : List Str}, strKeys ks = some zs → ks = zs.map Sum.inr
  | [], _, e => by cases e; rfl
  | .inl _ :: _, _, e => by cases e
  | .inr z :: r, zs, e => by
    unfold strKeys at e
    split at e
    · rename_i l hl
      cases e
      rw [strKeys_eq hl]
      rfl
    · cases e
def gSortD : List D → Sto → Option (List D) := fun ds st => match ds with
  | [x] => (match dicG st x with
    | some p => (match strKeys p.1 with
      | some zs => if zs.length < 64 then some ((sortS zs).map D.str) else none
      | none => none)
    | none => none)
  | _ => none
def rSortD : List V → Hp → VK → Prop := fun xs H Q => ∃ (a : Addr) (kvs : List (Key × V)) (ks : List Str), xs = [.ref a] ∧ Rd H a (.dK kvs) ∧ kvs.map (·.1) = ks.map Sum.inr ∧ ks.length < 64 ∧ ∀ ys p, ys.Perm ks → sortedS ys = true → H p = none → Q (.ref p) (upd H p (.lst (ys.map V.str)))
theorem ok_sortD {mg : Glob} : BiOk mg (RN mg) rSortD gSortD := by
  intro N c H st us ds d Q W p q k
  unfold gSortD at q
  split at q
  · rename_i x
    split at q
    · rename_i pp hp
      split at q
      · rename_i zs hz
        split at q
        · rename_i hl
          cases q
          obtain ⟨u, rfl, h⟩ := tl1 p
          obtain ⟨a, kvs, rfl, ha, hn, r⟩ := RepT.dicG W h hp
          refine ⟨a, kvs, zs, rfl, ha, by rw [hn, strKeys_eq hz], hl, fun ys p hp hs hl => ?_⟩
          rw [sortS_uniq hp (sorted_pw ys hs)]
          exact k _ _ _ _ (Ex.laidN W hl) (W.laidN hl) (RN.laid W hl (RepL.strs _))
        · cases q
      · cases q
    · cases q
  · cases q
section
variable {mg : Glob} {X : Cx} {e : Expr} {es : List Expr} {p pos : Pos} {f : SA}
theorem d_sortD (hc : X.calm = true) (hm : X.mg "sorted" = none) (ha : PA X (e :: es) (tAP mg f)) (hg : Gl X "sorted" := by rfl) (he : starEach (e :: es) X.env = (false, eval e X.env) :: starEach es X.env := by rfl) (hpl : (backTo pos (starEach es X.env)).any (·.1) = false := by rfl) : PE X (.Call (.Name "sorted" p) (e :: es) [] pos) (tL mg (eBi gSortD f)) :=
  d_bi (call_sortedD hc) ok_sortD back_N hg hm (by decide +kernel) ha (by decide) (by decide) he hpl
end
end LW

/-! LwYc: comprehensions over the keys of a dict; a dict of the frame's own. -/
namespace LW
open PySem L2 PyProof.Rows
/-- a heap in which dicts are locked or unlocked -/
structure Lk (N : Prot) (H H' : Hp) : Prop where
  keep : ∀ a o, H a = some o → (∀ kvs, ¬ (o = .dK kvs ∨ ∃ b, o = .frz b (.dK kvs))) → H' a = some o
  dic : ∀ a kvs, Rd H a (.dK kvs) → Rd H' a (.dK kvs)
  ex : ∀ a, N a → H' a = H a
section
variable {mg : Glob} {N : Prot} {c : List Addr} {H H' : Hp} {st : Sto}
theorem Lk.some (l : Lk N H H') {a : Addr} (h : H a ≠ none) : H' a ≠ none := by
  cases e : H a with
  | none => exact absurd e h
  | some o =>
    by_cases q : ∃ kvs, o = .dK kvs ∨ ∃ b, o = .frz b (.dK kvs)
    · obtain ⟨kvs, q⟩ := q
      have : Rd H a (.dK kvs) := q.elim (fun z => .inl (by rw [e, z])) fun ⟨b, z⟩ => .inr ⟨b, by rw [e, z]⟩
      rcases l.dic a kvs this with z | ⟨b, z⟩ <;> rw [z] <;> exact fun y => nomatch y
    · rw [l.keep a o e fun kvs z => q ⟨kvs, z⟩]
      exact fun y => nomatch y
mutual
theorem Rep.lk {v : V} {d : D} (l : Lk N H H') : Rep mg N c H v d → Rep mg N c H' v d
  | .non => .non
  | .bl b => .bl b
  | .int i => .int i
  | .str x => .str x
  | .ty n => .ty n
  | .cls h => .cls h
  | .tup h r => .tup (l.keep _ _ h fun kvs z => z.elim (fun y => nomatch y) fun ⟨_, y⟩ => nomatch y) (RepL.lk l r)
  | .lst h n r => .lst (l.keep _ _ h fun kvs z => z.elim (fun y => nomatch y) fun ⟨_, y⟩ => nomatch y) n (RepL.lk l r)
  | .fro h n r => .fro (l.keep _ _ h fun kvs z => z.elim (fun y => nomatch y) fun ⟨_, y⟩ => nomatch y) n (RepL.lk l r)
  | .kro h => .kro h
  | .cell h => .cell h
  | .dcl h => .dcl h
  | .ocl h => .ocl h
  | .obj hc h n hn r => .obj hc (l.keep _ _ h fun kvs z => z.elim (fun y => nomatch y) fun ⟨_, y⟩ => nomatch y) n hn (RepL.lk l r)
  | .dic h n hn r => (l.dic _ _ (.inl h)).elim (fun z => .dic z n hn (RepL.lk l r)) fun ⟨_, z⟩ => .dfz z n hn (RepL.lk l r)
  | .dfz h n hn r => (l.dic _ _ (.inr ⟨_, h⟩)).elim (fun z => .dic z n hn (RepL.lk l r)) fun ⟨_, z⟩ => .dfz z n hn (RepL.lk l r)
  | .dit h n hn r => .dit (l.keep _ _ h fun kvs z => z.elim (fun y => nomatch y) fun ⟨_, y⟩ => nomatch y) n hn (RepL.lk l r)
  | .ditz h n hn r => .ditz (l.keep _ _ h fun kvs z => z.elim (fun y => nomatch y) fun ⟨_, y⟩ => nomatch y) n hn (RepL.lk l r)
  | .err0 hc h n => .err0 hc (l.keep _ _ h fun kvs z => z.elim (fun y => ero_dK y) fun ⟨_, y⟩ => ero_frz y) n
  | .err1 hc h n hd nd r => .err1 hc (l.keep _ _ h fun kvs z => z.elim (fun y => ero_dK y) fun ⟨_, y⟩ => ero_frz y) n (l.keep _ _ hd fun kvs z => z.elim (fun y => nomatch y) fun ⟨_, y⟩ => nomatch y) nd (Rep.lk l r)
theorem RepL.lk {vs : List V} {ds : List D} (l : Lk N H H') : RepL mg N c H vs ds → RepL mg N c H' vs ds
  | .nil => .nil
  | .cons h r => .cons (Rep.lk l h) (RepL.lk l r)
end
theorem CRep.lk {o : HO} {xs : List D} (l : Lk N H H') : CRep mg N c H o xs → CRep mg N c H' o xs
  | .l r => .l (r.lk l)
  | .k r => .k (r.lk l)
  | .kz r => .kz (r.lk l)
  | .t r => .t (r.lk l)
  | .i hc r => .i hc (r.lk l)
theorem Wd.lk (l : Lk N H H') (W : Wd mg N c H st) : Wd mg N c H' st :=
  ⟨W.len, fun k a xs h1 h2 => let ⟨vs, e, r⟩ := W.sto k a xs h1 h2; ⟨vs, by rw [l.ex a (W.cn a (List.mem_of_getElem? h1))]; exact e, r.lk l⟩, W.cn, W.nd, fun a h => l.some (W.trk a h)⟩
theorem lk_lock {a : Addr} {od : Obj} {kvs : List (Key × V)} (h : H a = some (.dK kvs)) (n : ¬ N a) : Lk N H (upd H a (.frz od (.dK kvs))) where
  keep := fun b o e q => by
    by_cases z : b = a
    · subst z
      rw [h] at e
      cases e
      exact absurd (.inl rfl) (q kvs)
    · rw [upd_ne z]; exact e
  dic := fun b ks q => by
    by_cases z : b = a
    · subst z
      rcases q with q | ⟨o, q⟩
      · rw [h] at q; cases q; exact .inr ⟨od, upd_same⟩
      · rw [h] at q; cases q
    · unfold Rd
      rw [upd_ne z]; exact q
  ex := fun b z => upd_ne fun y => n (y ▸ z)
theorem lk_unlock {a : Addr} {od : Obj} {kvs : List (Key × V)} (h : H a = some (.frz od (.dK kvs))) (n : ¬ N a) : Lk N H (upd H a (.dK kvs)) where
  keep := fun b o e q => by
    by_cases z : b = a
    · subst z
      rw [h] at e
      cases e
      exact absurd (.inr ⟨_, rfl⟩) (q kvs)
    · rw [upd_ne z]; exact e
  dic := fun b ks q => by
    by_cases z : b = a
    · subst z
      rcases q with q | ⟨o, q⟩
      · rw [h] at q; cases q
      · rw [h] at q; cases q; exact .inl upd_same
    · unfold Rd
      rw [upd_ne z]; exact q
  ex := fun b z => upd_ne fun y => n (y ▸ z)
/-- the frame's relation in the locked heap -/
theorem Rel.lock {E : En} {env : Env} {σ : L2.St} {a : Addr} {od : Obj} {kvs : List (Key × V)} (R : Rel mg E N c env st σ H) (h : H a = some (.dK kvs)) (n : ¬ N a) : ∃ E', Rel mg E' N c env st σ (upd H a (.frz od (.dK kvs))) := by
  have l : Lk N H (upd H a (.frz od (.dK kvs))) := lk_lock h n
  have nn : ∀ b, (if b = a then (E.H0 a).map (fun _ => HO.frz od (.dK kvs)) else E.H0 b) = none ↔ E.H0 b = none := fun b => by
    by_cases z : b = a
    · subst z
      rw [if_pos rfl, Option.map_eq_none_iff]
    · rw [if_neg z]
  refine ⟨⟨fun b => if b = a then (E.H0 a).map (fun _ => HO.frz od (.dK kvs)) else E.H0 b, E.N0, E.c0, E.self⟩, ⟨R.len, fun i s e => ?_, fun i s b e ho es => ?_, R.inj, R.wd.lk l, R.n0, fun b z q => R.t0 b z ((nn b).mp q), fun b o e nc => ?_, R.pre, fun b z => (R.newc b z).imp id fun q => (nn b).mpr q, R.slf⟩⟩
  · have q := R.sl i s e
    have own : ∀ b, s.isOwn = true → σ[i]?.join = some (.ref b) → b ≠ a := fun b ho es z => n (z ▸ (R.own i s b e ho (join_some es)).1)
    cases s with
    | un => trivial
    | val d => obtain ⟨v, ev, rv⟩ := q; exact ⟨v, ev, rv.lk l⟩
    | own ys => obtain ⟨b, us, ev, hb, rv⟩ := q; exact ⟨b, us, ev, by rw [upd_ne (own b rfl ev)]; exact hb, rv.lk l⟩
    | ownI cn ns ds => obtain ⟨b, C, dx, fs, ev, hc, hb, hn, rv⟩ := q; exact ⟨b, C, dx, fs, ev, hc, by rw [upd_ne (own b rfl ev)]; exact hb, hn, rv.lk l⟩
    | ownD ks ds => obtain ⟨b, kvs', ev, hb, hn, rv⟩ := q; exact ⟨b, kvs', ev, by rw [upd_ne (own b rfl ev)]; exact hb, hn, rv.lk l⟩
    | ownT ks ds => obtain ⟨b, kvs', ev, hb, hn, rv⟩ := q; exact ⟨b, kvs', ev, by rw [upd_ne (own b rfl ev)]; exact hb, hn, rv.lk l⟩
  · obtain ⟨z1, z2, z3⟩ := R.own i s b e ho es
    exact ⟨z1, z2, (nn b).mpr z3⟩
  · by_cases z : b = a
    · subst z
      have e : (if b = b then (E.H0 b).map (fun _ => HO.frz od (.dK kvs)) else E.H0 b) = some o := e
      rw [if_pos rfl] at e
      obtain ⟨_, _, e⟩ := Option.map_eq_some_iff.mp e
      rw [← e]
      exact upd_same
    · have e : (if b = a then (E.H0 a).map (fun _ => HO.frz od (.dK kvs)) else E.H0 b) = some o := e
      rw [if_neg z] at e
      rw [upd_ne z]
      exact R.base b o e nc
end
/-! ### walks over the keys -/
def iKy (i : Nat) : Fx Src := fun env st => match env[i]? with
  | some (.val (.dic ks _)) => some ((ks.map keyV, noChk), st)
  | _ => none
def tIK (mg : Glob) (i : Nat) : TI := fun σ H R => tI mg (iKy i) σ H R ∧ ∃ a o kvs, σ[i]? = some (some (.ref a)) ∧ H a = some (.frz o (.dK kvs))
theorem rep_keys {mg : Glob} {N : Prot} {c : List Addr} {H : Hp} {k : Key} : Rep mg N c H (kV k) (keyV k) := Rep.key
theorem il_keys {mg : Glob} {N : Prot} {c : List Addr} {H : Hp} {a : Addr} {o : Obj} {kvs : List (Key × V)} (ha : H a = some (.frz o (.dK kvs))) (n : ¬ N a) : ItL mg (Itk a o kvs) ((kvs.map (·.1)).map keyV, noChk) N c H where
  stop := fun N' c' H' st x W _ => by
    refine ⟨x.keep a _ ha n, ?_⟩
    show kvs.length ≤ ((kvs.map (·.1)).map keyV).length
    rw [List.length_map, List.length_map]
    exact Nat.le_refl _
  go := fun i N' c' H' st hi x W _ => by
    refine ⟨x.keep a _ ha n, ?_⟩
    have : i < ((kvs.map (·.1)).map keyV).length := hi
    rwa [List.length_map, List.length_map] at this
  yld := fun i N' c' H' st v H2 hi x W _ y => by
    obtain ⟨rfl, k, w, hk, rfl⟩ := y
    refine ⟨keyV k, ?_, Ex.refl, W, rep_keys⟩
    show ((kvs.map (·.1)).map keyV)[i]? = _
    rw [List.getElem?_map, List.getElem?_map, hk]
    rfl
section
variable {mg : Glob} {X : Cx} {tg : Expr} {pos : Pos}
theorem i_keys (i : Nat) {x : Str} {p : Pos} (hN : X.N[i]? = some x := by rfl) (hv : Vis X.env.scope x := by first | exact Or.inl rfl | exact Or.inr (Or.inl rfl) | exact Or.inr (Or.inr rfl)) (hd : (x == ("__debug__" : Str)) = false := by decide)
    (hcd : (x == ("__classdict__" : Str)) = false := by decide) : PI X tg (.Name x p) (tIK mg i) := pi_weak (pi_keys (pe_var hN hv hd hcd)) fun σ H R ⟨⟨E, N, c, env, st, xs, st', Rl, q, k⟩, a, o, kvs, hs, ha⟩ => by
  unfold iKy at q
  split at q
  · rename_i ks ds he
    cases q
    obtain ⟨v, ev, rv⟩ := Rl.sl i _ he
    have ev := join_some ev
    rw [hs] at ev
    cases ev
    refine ⟨.ref a, hs, a, o, rfl, .inl ⟨kvs, ha, ?_⟩⟩
    cases rv with
    | dic h _ _ _ => rw [ha] at h; cases h
    | dfz h n hn r =>
      rw [ha] at h
      cases h
      subst hn
      exact k _ N c H Ex.refl Rl.wd (il_keys ha n)
  · cases q
theorem pe_lockOr {e : Expr} {t : TE} (h : PE X e t) : PE X e (fun σ H Q => tLockE t σ H Q ∨ t σ H Q) := ⟨fun pins s σ H Q I q => q.elim (fun z => (pe_lock h).run pins s σ H Q I z) fun z => h.run pins s σ H Q I z⟩
variable {eltE : Expr} {ifs : List Expr} {scope : Scope} {own : List (Str × Nat)} {asg : D → Env → Option Env} {cond : SB} {elt : SE} {g : TG} {is : List Nat}
theorem r_lcK (hg : GOk mg g asg is) (hv : ∀ i ∈ is, i ∈ own.map (·.2)) {i : Nat} {σ : L2.St} {H : Hp} {Q : VK} (h : tL mg (lComp (iKy i) asg cond elt (own.map (·.2))) σ H Q) :
    tLockE (tLc (tIK mg i) g (tT mg cond) (tE mg elt) (own.map (·.2))) σ H Q ∨ tLc (tIK mg i) g (tT mg cond) (tE mg elt) (own.map (·.2)) σ H Q := by
  obtain ⟨E, N, c, env, st, d, st', R, q, k⟩ := h
  have q0 := q
  unfold lComp iKy at q
  split at q
  · cases q
  · rename_i src s1 q1
    split at q1
    · rename_i ks ds he
      obtain ⟨v, ev, rv⟩ := R.sl i _ he
      have ev := join_some ev
      cases rv with
      | dfz ha n hn r => exact .inr ⟨r_lc (fi := iKy i) hg hv ⟨E, N, c, env, st, d, st', R, q0, k⟩, _, _, _, ev, ha⟩
      | dic ha n hn r =>
        rename_i a kvs _
        refine .inl ⟨a, .dK kvs, ha, trivial, fun od => ⟨?_, a, od, kvs, ev, upd_same⟩⟩
        obtain ⟨E', R'⟩ := R.lock (od := od) ha n
        show tLc (tI mg (iKy i)) g (tT mg cond) (tE mg elt) (own.map (·.2)) σ _ (fun v H' => H' a = some (.frz od (.dK kvs)) ∧ Q v (upd H' a (.dK kvs)))
        refine r_lc (fi := iKy i) hg hv ⟨E', N, c, env, st, d, st', R', q0, fun v N' c' H' x W' rn => ?_⟩
        have nc : a ∉ c := fun z => n (R.wd.cn a z)
        have hf : H' a = some (.frz od (.dK kvs)) := x.keep a _ upd_same nc
        have n' : ¬ N' a := fun z => (x.new a z).elim n fun e => by rw [upd_same] at e; cases e
        have l : Lk N' H' (upd H' a (.dK kvs)) := lk_unlock hf n'
        refine ⟨hf, k v N' c' (upd H' a (.dK kvs)) ⟨fun b o e nb => ?_, fun b z => ?_, x.mono, x.pre, fun b z => ?_⟩ (W'.lk l) ?_⟩
        · by_cases z : b = a
          · subst z
            rw [ha] at e
            cases e
            exact upd_same
          · rw [upd_ne z]
            exact x.keep b o (by rw [upd_ne z]; exact e) nb
        · rcases x.new b z with y | y
          · exact .inl y
          · by_cases w : b = a
            · subst w; rw [upd_same] at y; cases y
            · rw [upd_ne w] at y; exact .inr y
        · rcases x.newc b z with y | y
          · exact .inl y
          · by_cases w : b = a
            · subst w; rw [upd_same] at y; cases y
            · rw [upd_ne w] at y; exact .inr y
        · obtain ⟨p, vs, rfl, hp, np, nc', hv', rr⟩ := rn
          have hpa : p ≠ a := fun z => by rw [z, hf] at hv'; cases hv'
          exact ⟨p, vs, rfl, by rw [upd_ne hpa] at hp; exact hp, np, nc', by rw [upd_ne hpa]; exact hv', rr.lk l⟩
    · cases q1
/-- [elt for key in d if ..] -/
theorem d_lcK (i : Nat) {x : Str} {p : Pos} (hc : X.calm = true) (hN : X.N.Nodup) (ok : BlkOk X.N X.env.scope scope own)
    (hgg : ∀ (s : Shared) (H : Hp) (C : Addr) (cl : List (Str × Addr)) (fp : List Addr), PG (X.blk s H scope (compEnvC scope cl C X.env) fp) tg g) (hg : GOk mg g asg is) (hv : ∀ i ∈ is, i ∈ own.map (·.2))
    (ht : ∀ (s : Shared) (H : Hp) (C : Addr) (cl : List (Str × Addr)) (fp : List Addr), PTs (X.blk s H scope (compEnvC scope cl C X.env) fp) ifs (tT mg cond))
    (he : ∀ (s : Shared) (H : Hp) (C : Addr) (cl : List (Str × Addr)) (fp : List Addr), PE (X.blk s H scope (compEnvC scope cl C X.env) fp) eltE (tE mg elt))
    (hx : X.N[i]? = some x := by rfl) (hvs : Vis X.env.scope x := by first | exact Or.inl rfl | exact Or.inr (Or.inl rfl) | exact Or.inr (Or.inr rfl)) (hd : (x == ("__debug__" : Str)) = false := by decide)
    (hcd : (x == ("__classdict__" : Str)) = false := by decide) (hs : ∀ y, foldedSetIterable (.Name x p) X.env y = pure y := by intro _; rfl) :
    PE X (.ListComp eltE [⟨tg, .Name x p, ifs, 0⟩] scope pos) (tL mg (lComp (iKy i) asg cond elt (own.map (·.2)))) :=
  pe_weak (pe_lockOr (pe_lc hc hN (i_keys i hx hvs hd hcd) ok hgg ht he hs)) fun _ _ _ h => r_lcK hg hv h
end
end LW

/-! LwYd: != of lists of equal things, dicts among them. -/
namespace PySem.SeqAt
open AutoSeq1 (wpAny_loadPart')
open MeetsSeq MeetsSeq2 MeetsSeq3 SeqRoads2
section
variable {P : Program} {w : World}
end
end PySem.SeqAt
namespace LW
open PySem L2 PyProof.Rows
section
variable {X : Cx} {pins : List (Addr × Obj)} {σ : L2.St} {H : Hp} {s : Shared}
end
/-! ### equal data -/
section
variable {mg : Glob} {N : Prot} {c : List Addr} {H : Hp} {st : Sto}
end
section
variable {mg : Glob} {X : Cx} {a b : Expr} {pos : Pos} {fa fb : SE}
end
/-! ### a dict of the frame's own -/
def sOwnD (i : Nat) (f : Fx DK) : SS := fun env st => match f env st with
  | some (d, s1) => some (.nx (env.set i (.ownD d.1 d.2)), s1)
  | none => none
section
variable {mg : Glob} {X : Cx} {e ej : Expr} {pos tpos : Pos} {fe fj : SE} {fl : Fx DK}
end
end LW

/-! LwYe: {k: v, ..}. -/
namespace LW
open PySem L2 PyProof.Rows
def evP : List (SE × SE) → Fx (List (Key × D))
  | [] => fun _ st => some ([], st)
  | (a, b) :: r => fun env st => match a env st with
    | some (x, s1) => (match keyD x with
      | some k => (match b env s1 with
        | some (y, s2) => (match evP r env s2 with
          | some (l, s3) => some ((k, y) :: l, s3)
          | none => none)
        | none => none)
      | none => none)
    | none => none
def lDd (l : List (SE × SE)) : Fx DK := fun env st => match evP l env st with
  | some (ps, s1) => if ps.length ≤ 15 then some (mergeD ([], []) ps, s1) else none
  | none => none
section
variable {mg : Glob}
abbrev trP (mg : Glob) (l : List (SE × SE)) : List (TE × TE) := l.map fun p => (tE mg p.1, tE mg p.2)
theorem r_pairs {E : En} {σ : L2.St} : ∀ {l : List (SE × SE)} {N : Prot} {c : List Addr} {H : Hp} {env : Env} {st st' : Sto} {ps : List (Key × D)} {Q : List (V × V) → Hp → Prop}, Rel mg E N c env st σ H → evP l env st = some (ps, st') →
    (∀ (kvs : List (Key × V)) N' c' H', Ex N c H N' c' H' → Wd mg N' c' H' st' → kvs.map (·.1) = ps.map (·.1) → RepL mg N' c' H' (kvs.map (·.2)) (ps.map (·.2)) → Q (kvs.map fun kv => (kV kv.1, kv.2)) H') → tPairs (trP mg l) σ H Q
  | [], N, c, H, env, st, st', ps, Q, R, q, k => by
    cases q
    exact k [] N c H Ex.refl R.wd rfl .nil
  | (a, b) :: r, N, c, H, env, st, st', ps, Q, R, q, k => by
    unfold evP at q
    split at q
    · rename_i x s1 q1
      split at q
      · rename_i kk hk
        split at q
        · rename_i y s2 q2
          split at q
          · rename_i l s3 q3
            cases q
            refine ⟨E, N, c, env, st, x, s1, R, q1, fun u N1 c1 H1 x1 W1 r1 => ⟨E, N1, c1, env, s1, y, s2, R.ex x1 W1, q2, fun v N2 c2 H2 x2 W2 r2 => ?_⟩⟩
            refine r_pairs ((R.ex x1 W1).ex x2 W2) q3 fun kvs N3 c3 H3 x3 W3 e r3 => ?_
            have eu := RepT.key (.inl r1) hk
            subst eu
            exact k ((kk, v) :: kvs) N3 c3 H3 ((x1.trans x2 R.wd).trans x3 R.wd) W3 (by rw [List.map_cons, List.map_cons, e]) (.cons (Rep.tr (x3.tr W2) r2) r3)
          · cases q
        · cases q
      · cases q
    · cases q
variable {X : Cx} {pos : Pos} {keys : List (Option Expr)} {values : List Expr} {l : List (SE × SE)}
theorem dd_nil : PPs X pos [] [] (trP mg []) := pps_nil
theorem dd_cons {k v : Expr} {a b : SE} (hk : PE X k (tE mg a)) (hv : PE X v (tE mg b)) (hr : PPs X pos keys values (trP mg l)) : PPs X pos (some k :: keys) (v :: values) (trP mg ((a, b) :: l)) := pps_cons hk hv hr
theorem d_disp (h : PPs X pos keys values (trP mg l)) (hall : keys.all (·.isSome) = true := by rfl) (hl : keys.length = values.length := by rfl) (h0 : keys ≠ [] := by exact fun z => nomatch z) (h15 : keys.length ≤ 15 := by decide) : PE X (.Dict keys values pos) (tD mg (lDd l)) :=
  pe_weak (pe_disp h hall hl h0 h15) fun σ H Q ⟨E, N, c, env, st, d, st', R, q, k⟩ => by
    unfold lDd at q
    split at q
    · rename_i ps s1 q1
      split at q
      · rename_i hl
        cases q
        intro p hp
        have x0 := Ex.laidN (o := .dK []) R.wd hp
        have W0 := R.wd.laidN (o := .dK []) hp
        refine r_pairs (R.ex x0 W0) q1 fun kvs N2 c2 H2 x2 W2 e r2 => ?_
        have nc : p ∉ c := R.wd.cnone hp
        have hp2 : H2 p = some (.dK []) := x2.keep p _ upd_same nc
        have np : N2 p := x2.mono p (.inr rfl)
        have nc2 : p ∉ c2 := x2.nc W0 upd_same nc
        obtain ⟨m1, m2⟩ := merge_rel (l := ps) (more := kvs) (kvs := []) (ds := []) .nil e r2
        have tr : Tr N2 c2 H2 N2 c2 (upd H2 p (.dK (mergeK [] kvs))) := ⟨fun b o h n => by rw [upd_ne fun z => n (by rw [z]; exact np)]; exact h, fun _ z => .inl z, fun _ _ z => z, fun b us e => by rw [upd_ne (fun z => by rw [z, hp2] at e; cases e)]; exact e⟩
        refine ⟨hp2, kvs, rfl, ?_, k (.ref p) N2 c2 _ ⟨fun b o h n => ?_, fun b z => ?_, fun b z => x2.mono b (.inl z), x2.pre, fun b z => ?_⟩ ⟨W2.len, fun j b xs h1 h2 => ?_, W2.cn, W2.nd, fun b z => ?_⟩ ⟨p, _, rfl, hp, np, nc2, upd_same, m1, m2.tr tr⟩⟩
        · have := congrArg List.length e
          rw [List.length_map, List.length_map] at this
          omega
        · have : b ≠ p := ne_of_none h hp
          rw [upd_ne this]
          exact x2.keep b o (by rw [upd_ne this]; exact h) n
        · rcases x2.new b z with (y | y) | y
          · exact .inl y
          · exact .inr (by rw [y]; exact hp)
          · by_cases w : b = p
            · rw [w, upd_same] at y; cases y
            · rw [upd_ne w] at y; exact .inr y
        · rcases x2.newc b z with y | y
          · exact .inl y
          · by_cases w : b = p
            · rw [w, upd_same] at y; cases y
            · rw [upd_ne w] at y; exact .inr y
        · obtain ⟨vs, hb, rr⟩ := W2.sto j b xs h1 h2
          exact ⟨vs, by rw [upd_ne (show b ≠ p from fun z => nc2 (z ▸ List.mem_of_getElem? h1))]; exact hb, rr.tr tr⟩
        · by_cases w : b = p
          · rw [w, upd_same]; exact fun y => nomatch y
          · rw [upd_ne w]; exact W2.trk b z
      · cases q
    · cases q
end
end LW

/-! LwYf: set(list of texts), sorted. -/
namespace LW
open PySem L2 PySem.Spec PyProof.Rows
/-! ### what a set of texts is -/
def txOf (e : Int × Value) : Str := match e.2 with
  | .str k _ => k
  | _ => ⟨#[]⟩
def TxE (w : World) (e : Int × Value) : Prop := ∃ k tk, e.2 = Value.str k tk ∧ e.1 = hashStr w k
abbrev txL (es : Array (Int × Value)) : List Str := es.toList.map txOf
/-- the table and the rows of a set that holds just the texts l -/
structure TxT (w : World) (es : Array (Int × Value)) (t : SetTable) (l : List Str) : Prop where
  row : ∀ e ∈ es.toList, TxE w e
  nd : (txL es).Nodup
  mem : ∀ k, k ∈ l ↔ k ∈ txL es
  few : es.size < scanBound
  fit : t.fits es.size = true
  ris : Ris t.place.toList
  led : w.params.followText "set-order" = true ∨ t.led = true
def SetS (w : World) (h : Heap) (a : Addr) (l : List Str) (n : Nat) : Prop := ∃ o es ep t, h.get? a = some o ∧ o.ExactSet ∧ o.data = .set es ep t ∧ TxT w es t l ∧ es.size = n
section
variable {P : Program} {w : World} {A : Around} {E : Value → Shared → Prop} {s : Shared} {a : Addr} {l : List Str} {n : Nat}
theorem SetS.at {h h' : Heap} (R : SetS w h a l n) (k : ∀ o, h.get? a = some o → h'.get? a = some o) : SetS w h' a l n := by
  obtain ⟨o, es, ep, t, ho, r⟩ := R
  exact ⟨o, es, ep, t, k o ho, r⟩
theorem tx_is (k : Str) (u : Tok) : (strKind P w).is k (.str k u) = true := by
  show Value.isStrOf k (.str k u) = true
  simp [Value.isStrOf]
theorem tx_elems {xs : List (Int × Value)} (g : ∀ e ∈ xs, TxE w e) : ElemsOf (strKind P w) xs := fun e he => by
  obtain ⟨k, tk, h1, h2⟩ := g e he
  exact ⟨⟨k, by rw [h1]; exact tx_is k tk, h2⟩, by rw [h1]; rfl⟩
theorem tx_key {e : Int × Value} (g : TxE w e) (k : Str) : (strKind P w).is k e.2 = true ↔ txOf e = k := by
  obtain ⟨z, tk, h1, _⟩ := g
  unfold txOf
  rw [h1]
  constructor
  · intro h
    exact (strKind P w).inj (.str z tk) z k (tx_is z tk) h
  · rintro rfl
    exact tx_is z tk
theorem tx_mem {xs : List (Int × Value)} (g : ∀ e ∈ xs, TxE w e) (k : Str) : k ∈ xs.map txOf ↔ ∃ e ∈ xs, (strKind P w).is k e.2 = true := by
  rw [List.mem_map]
  exact ⟨fun ⟨e, he, q⟩ => ⟨e, he, (tx_key (g e he) k).mpr q⟩, fun ⟨e, he, q⟩ => ⟨e, he, (tx_key (g e he) k).mp q⟩⟩
theorem TxT.perm {es es' : Array (Int × Value)} {t t' : SetTable} (T : TxT w es t l) (p : es'.toList.Perm es.toList) (hf : t'.fits es'.size = true) (hr : Ris t'.place.toList) (hl : t'.led = t.led) : TxT w es' t' l where
  row := fun e he => T.row e (p.mem_iff.mp he)
  nd := (p.map txOf).nodup_iff.mpr T.nd
  mem := fun k => (T.mem k).trans (p.map txOf).mem_iff.symm
  few := by rw [show es'.size = es.size by rw [← Array.length_toList, p.length_eq, Array.length_toList]]; exact T.few
  fit := hf
  ris := hr
  led := T.led.imp id fun z => hl.trans z
theorem TxT.add {es es' : Array (Int × Value)} {t t' : SetTable} {k : Str} {tk : Tok} (T : TxT w es t l) (nk : k ∉ txL es) (p : es'.toList.Perm ((hashStr w k, Value.str k tk) :: es.toList)) (room : es.size + 1 < scanBound) (hf : t'.fits es'.size = true) (hr : Ris t'.place.toList) (hl : t'.led = t.led) : TxT w es' t' (k :: l) where
  row := fun e he => by
    rcases List.mem_cons.mp (p.mem_iff.mp he) with z | z
    · rw [z]; exact ⟨k, tk, rfl, rfl⟩
    · exact T.row e z
  nd := (p.map txOf).nodup_iff.mpr (List.nodup_cons.mpr ⟨nk, T.nd⟩)
  mem := fun j => by
    rw [(p.map txOf).mem_iff, List.map_cons, List.mem_cons, List.mem_cons, T.mem j]
    rfl
  few := by rw [show es'.size = es.size + 1 by rw [← Array.length_toList, p.length_eq, List.length_cons, Array.length_toList]]; exact room
  fit := hf
  ris := hr
  led := T.led.imp id fun z => hl.trans z
/-- the end of an add: stored, and laid anew where the table is too full -/
theorem tx_tail {g : Bool → Sem Unit} (hg : ∀ (b : Bool) (s₁ : Shared) (Q' : Unit → Shared → Prop), Q' () s₁ → wpAny (model P w) A (g b) Q' E s₁) {o : Obj} {es : Array (Int × Value)} {ep : Nat} {t : SetTable}
    (ho : s.heap.get? a = some o) (hx : o.ExactSet) (hd : o.data = .set es ep t) {es1 : Array (Int × Value)} {t2 : SetTable} (T : TxT w es1 t2 l) {dummy : Bool} {R : Option Bool → Shared → Prop}
    (hR : ∀ h', Heap.SameBut a s.heap h' → SetS w h' a l es1.size → R (some true) { s with heap := h' }) :
    wpAny (model P w) A (do
        storeSet a es1 t2
        if (!dummy && t2.tooFull) = true then do
            g (relayAll t2 es1 (SetTable.grown es1.size)).2.2
            storeSet a (relayAll t2 es1 (SetTable.grown es1.size)).1 (relayAll t2 es1 (SetTable.grown es1.size)).2.1
            pure (some true)
          else pure (some true)) R E s := by
  refine wpAny_bind (wpAny_storeSet_of ho hd ?_ (fits_of_scanBound T.few))
  have o1 := store_at (es' := es1) (t' := t2) ho hd
  have b1 := Heap.SameBut.update s.heap a (Obj.putSet es1 t2)
  split
  · have T' := T.perm (relayAll_perm t2 es1 (SetTable.grown es1.size)) (relayAll_fits t2 es1 (SetTable.grown es1.size)) (relayAll_ris t2 es1 (SetTable.grown es1.size)) (relayAll_led t2 es1 (SetTable.grown es1.size))
    have pz := (relayAll_perm t2 es1 (SetTable.grown es1.size)).length_eq
    rw [Array.length_toList, Array.length_toList] at pz
    generalize relayAll t2 es1 (SetTable.grown es1.size) = Z at T' pz ⊢
    refine wpAny_bind (hg _ _ _ (wpAny_bind (wpAny_storeSet_of o1 rfl ?_ (fits_of_scanBound T'.few))))
    exact wpAny_pure (hR _ (b1.trans (Heap.SameBut.update _ a _)) ⟨_, Z.1, _, Z.2.1, store_at o1 rfl, hx, rfl, T', pz⟩)
  · exact wpAny_pure (hR _ b1 ⟨_, es1, _, t2, o1, hx, rfl, T, rfl⟩)
/-- one text more -/
theorem tx_add {k : Str} {tk : Tok} {Q : Bool → Shared → Prop} (R : SetS w s.heap a l n) (room : n + 1 < scanBound)
    (hQ : ∀ h' b m, Heap.SameBut a s.heap h' → SetS w h' a (k :: l) m → m ≤ n + 1 → Q b { s with heap := h' }) : wpAny (model P w) A (setAddHashed a (.str k tk) ((strKind P w).hash k)) Q E s := by
  obtain ⟨o, es, ep, t, ho, hx, hd, T, hn⟩ := R
  have el : ElemsOf (strKind P w) es.toList := tx_elems T.row
  unfold setAddHashed setAddHashedIn
  refine wpAny_holding (wpAny_bind (wpAny_setState_of ho hd T.fit ?_))
  dsimp only
  rw [byScan_of (show (Value.str k tk).scannable = true from rfl) T.few el, if_pos rfl]
  unfold setAddByScan
  refine wpAny_bind (wpAny_bind (wpAny_rule (wpAny_bind (wpAny_setScan_of (tx_is k tk) ho hd T.fit el ?_))))
  cases hfi : List.findIdx? (fun e => (strKind P w).is k e.2) es.toList with
  | some j =>
    dsimp only
    obtain ⟨hj, pj, _⟩ := List.findIdx?_eq_some_iff_getElem.mp hfi
    have hk : k ∈ txL es := (tx_mem (P := P) (w := w) T.row k).mpr ⟨es.toList[j], List.getElem_mem hj, pj⟩
    refine wpAny_pure (wpAny_pure (hQ s.heap _ n (Heap.SameBut.refl a s.heap) ⟨o, es, ep, t, ho, hx, hd, ⟨T.row, T.nd, fun i => ?_, T.few, T.fit, T.ris, T.led⟩, hn⟩ (Nat.le_succ _)))
    rw [List.mem_cons, T.mem i]
    exact ⟨fun z => z.elim (fun y => by rw [y]; exact hk) id, .inr⟩
  | none =>
    dsimp only
    have nk : k ∉ txL es := fun z => by
      obtain ⟨e, he, q⟩ := (tx_mem (P := P) (w := w) T.row k).mp z
      have := List.findIdx?_eq_none_iff.mp hfi e he
      rw [q] at this
      cases this
    have gave : ∀ (b : Bool) {s₁ : Shared} {Q' : Unit → Shared → Prop}, Q' () s₁ → wpAny (model P w) A (match b with | true => rule "set.scan.the-table-gave-way" | false => pure ()) Q' E s₁ :=
      fun b s₁ Q' q => by cases b <;> first | exact wpAny_pure q | exact wpAny_rule q
    have pm := layNew_perm t es ((strKind P w).hash k) (.str k tk)
    have hf1 := layNew_fits t es ((strKind P w).hash k) (.str k tk)
    have hr1 := layNew_ris t es ((strKind P w).hash k) (.str k tk) T.ris
    have hl1 := layNew_led t es ((strKind P w).hash k) (.str k tk)
    generalize layNew t es ((strKind P w).hash k) (.str k tk) = Z at pm hf1 hr1 hl1 ⊢
    obtain ⟨es1, t1, dm, gv⟩ := Z
    dsimp only at pm hf1 hr1 hl1 ⊢
    rw [Array.toList_push] at pm
    have pc : es1.toList.Perm ((hashStr w k, Value.str k tk) :: es.toList) := pm.trans (List.perm_append_singleton _ _)
    have hz : es1.size = n + 1 := by rw [← Array.length_toList, pc.length_eq, List.length_cons, Array.length_toList, hn]
    have T1 : ∀ t' : SetTable, t'.fits es1.size = true → Ris t'.place.toList → t'.led = t.led → TxT w es1 t' (k :: l) := fun t' f r d => T.add nk pc (by omega) f r d
    have fin : ∀ h' b, Heap.SameBut a s.heap h' → SetS w h' a (k :: l) es1.size → Q b { s with heap := h' } := fun h' b sb r => hQ h' b _ sb r (by omega)
    refine wpAny_bind (gave _ ?_)
    split
    · refine wpAny_bind ?_
      rw [hashByValue_scannable 8 (show (Value.str k tk).scannable = true from rfl)]
      refine wpAny_pure ?_
      refine tx_tail (l := k :: l) (fun b s₁ Q' q => by cases b <;> first | exact wpAny_pure q | exact wpAny_rule q) ho hx hd (T1 _ ?_ ?_ ?_) fun h' sb r => wpAny_pure (fin h' _ sb r)
      · first | (split <;> first | exact hf1 | exact SetTable.fits_plain_off hf1) | exact hf1
      · first | (split <;> exact hr1) | exact hr1
      · first | (split <;> exact hl1) | exact hl1
    · refine wpAny_bind (wpAny_pure ?_)
      simp only [↓reduceIte]
      exact tx_tail (l := k :: l) (fun b s₁ Q' q => by cases b <;> first | exact wpAny_pure q | exact wpAny_rule q) ho hx hd (T1 _ hf1 hr1 hl1) fun h' sb r => wpAny_pure (fin h' _ sb r)
end
end LW

/-! LwYg: set(list of texts), sorted(..) of it. -/
namespace LW
open PySem L2 PySem.Spec PyProof.Rows
section
variable {P : Program} {w : World} {A : Around} {E : Value → Shared → Prop} {s : Shared}
theorem SetS.same {h : Heap} {a : Addr} {l l' : List Str} {n : Nat} (R : SetS w h a l n) (e : ∀ k, k ∈ l ↔ k ∈ l') : SetS w h a l' n := by
  obtain ⟨o, es, ep, t, ho, hx, hd, T, hn⟩ := R
  exact ⟨o, es, ep, t, ho, hx, hd, ⟨T.row, T.nd, fun k => (e k).symm.trans (T.mem k), T.few, T.fit, T.ris, T.led⟩, hn⟩
/-- the loop of set.update over texts -/
theorem tx_loop {I : Addr} {fp wr : List Addr} {G : Array GenState → Array GenState → Prop} {n : Nat} {Pv : Nat → Value → Prop} {St : Nat → Shared → Prop} {R : Result → Shared → Prop}
    (W : WalksS P w A.in1 I fp wr G n Pv St) (S : Addr) (hS : S ∉ fp) (zs : List Str) (hn : n = zs.length) (hb : zs.length + 1 < scanBound) (hv : ∀ i v, Pv i v → ∃ k t, zs[i]? = some k ∧ v = .str k t) :
    ∀ (m i : Nat) (s : Shared), n - i = m → i ≤ n → St i s → (∃ c, c ≤ i ∧ SetS w s.heap S (zs.take i) c) →
      (∀ s' c, Moved (S :: wr) G s s' → c ≤ n → SetS w s'.heap S zs c → R (.ok (.ret .none)) s') → codeAny (model P w) A (.builtin "set.update.loop" ⟨[.ref S, .ref I], []⟩) R s
  | 0, i, s, hm, hi, hst, ⟨c, hc, hs⟩, hR => by
    have hin : i = n := by omega
    subst hin
    refine codeAny_builtin F.entry_set_update_loop ?_
    rw [Around.under_plainId F.plain_set_update_loop]
    show wpAny _ A.in1 (pyNext (.ref I) >>= _) _ _ s
    refine wpAny_bind (W.done s _ _ hst fun s' mv => ?_)
    show wpAny _ A.in1 (ret Value.none) _ _ s'
    rw [List.take_of_length_le (by omega)] at hs
    exact wpAny_pure (hR s' c (mv.mono fun b hb => List.mem_cons_of_mem _ hb) hc (hs.at fun o e => mv.heap S o (fun z => hS (W.sub _ z)) e))
  | m + 1, i, s, hm, hi, hst, ⟨c, hc, hs⟩, hR => by
    have lt : i < n := by omega
    have sub : ∀ b ∈ wr, b ∈ S :: wr := fun b hb => List.mem_cons_of_mem _ hb
    refine codeAny_builtin F.entry_set_update_loop ?_
    rw [Around.under_plainId F.plain_set_update_loop]
    show wpAny _ A.in1 (pyNext (.ref I) >>= _) _ _ s
    refine wpAny_bind (W.item i s _ _ lt hst fun v s' hP hst' mv => ?_)
    obtain ⟨z, t, hz, rfl⟩ := hv i v hP
    have hs' : SetS w s'.heap S (zs.take i) c := hs.at fun o e => mv.heap S o (fun y => hS (W.sub _ y)) e
    show wpAny _ A.in1 (holding [Value.str z t] (setAdd S (.str z t)) >>= _) _ _ s'
    refine wpAny_bind (wpAny_holding ?_)
    unfold setAdd
    refine wpAny_holding (wpAny_bind ((strKind P w).pyHash (k := z) (tx_is z t) ?_))
    refine tx_add (s := { s' with toks := s'.toks + 1 }) hs' (by omega) fun h' b c' sb hs2 hc' => ?_
    have hs3 : SetS w h' S (zs.take (i + 1)) c' := hs2.same fun k => by
      rw [List.take_add_one, hz, List.mem_cons, List.mem_append]
      simp [Or.comm]
    refine wpAny_pure ⟨plainId_quiet F.plain_set_update_loop _, tx_loop W S hS zs hn hb hv m (i + 1) _ (by omega) lt (W.frame _ s' _ _ hst' (Nat.le_succ _) fun b hb o e => ?_) ⟨c', by omega, hs3⟩ fun s'' c2 mv2 hc2 hs4 => ?_⟩
    · rw [sb.2 b fun h => hS (by rw [← h]; exact hb)]; exact e
    · refine hR s'' c2 (Moved.trans W.gtrans ((mv.mono sub).then_heap (Nat.le_succ _) fun b o hb e => ?_) mv2) hc2 hs4
      rw [sb.2 b fun h => hb (by rw [h]; exact List.mem_cons_self)]; exact e
theorem setS_new {h : Heap} {a : Addr} {zs : List Str} (ho : h.get? a = some (nS w)) : SetS w h a (zs.take 0) 0 :=
  ⟨_, #[], 0, _, ho, ⟨rfl, rfl, rfl⟩, rfl, ⟨fun e he => by simp at he, List.Pairwise.nil, fun k => by simp [txL], by decide, by rfl, List.Pairwise.nil, by
    show _ ∨ (!w.params.followText "set-order") = true
    cases w.params.followText "set-order"
    · exact .inr rfl
    · exact .inl rfl⟩, rfl⟩
abbrev SetEndS (w : World) (s : Shared) (zs : List Str) (E : Value → Shared → Prop) : Result → Shared → Prop :=
  wants (fun r s₂ => r = .none ∧ ∃ h' tk c, s₂ = { s with heap := h', toks := tk } ∧ SetS w h' s.heap.objs.size zs c ∧ c ≤ zs.length ∧ (∀ b o, s.heap.get? b = some o → h'.get? b = some o)) E
theorem str_at {vs : List Value} {zs : List Str} (h : Vals (zs.map V.str) vs) {i : Nat} {v : Value} (e : vs[i]? = some v) : ∃ k t, zs[i]? = some k ∧ v = .str k t := by
  induction zs generalizing vs i with
  | nil => cases h; simp at e
  | cons z zs ih =>
    cases h with
    | cons a b =>
      obtain ⟨t, rfl⟩ := a
      cases i with
      | zero => simp at e; exact ⟨z, t, rfl, e.symm⟩
      | succ i => exact ih b (by simpa using e)
set_option maxHeartbeats 8000000 in
theorem setT {l : Addr} {items : Array Value} (zs : List Str) {Q : Value → Shared → Prop} (hh : A.handled = none) (hl : s.heap.IsList l items) (hit : Vals (zs.map V.str) items.toList) (hb : zs.length + 1 < scanBound)
    (h : ∀ (h' : Heap) (tk c : Nat), SetS w h' s.heap.objs.size zs c → c ≤ zs.length → (∀ b o, s.heap.get? b = some o → h'.get? b = some o) → Q (.ref s.heap.objs.size) { s with heap := h', toks := tk }) :
    wpAny (model P w) A (call (.type "set") [.ref l]) Q E s := by
  have hisz : items.size = zs.length := by rw [← Array.length_toList, ← hit.length, List.length_map]
  obtain ⟨c, tl, hmro⟩ := F.called_set.mro
  have hmade := F.called_set.made
  have hsub := F.called_set.sub
  refine wpAny_call (codeAny_of_tree ?_)
  show wpAny _ _ (callAny (.type "set") _) _ _ _
  refine wpAny_pure ⟨Code.quiet_builtin _ (by decide +kernel), codeAny_builtin F.entry_type_call ?_⟩
  rw [Around.under_plain (weight_type_call_type "set" [.ref l] []) rfl]
  have h1 := F.called_set.notType
  have h2 := F.called_set.canCreate
  have hct := F.typeCall_set_1 (.ref l)
  repeat (any_goals (first | assumption | wp_step))
  refine codeAny_mono (code_set_led1 (.ref l) (E := E) (Q₁ := fun obj s₁ => obj = .ref s.heap.objs.size ∧ s₁ = { s with heap := pS w s }) ⟨rfl, rfl⟩) fun r s₁ hr => ?_
  cases r with
  | error e => exact hr
  | ok fl =>
    cases fl with
    | ret obj =>
      obtain ⟨rfl, rfl⟩ := hr
      have hS : (pS w s).get? s.heap.objs.size = some (nS w) := Heap.get?_push_size _ rfl
      have hT : Shared.TypeIs { s with heap := pS w s } (.ref s.heap.objs.size) "set" := ⟨_, hS, rfl⟩
      have hli := F.called_set.init.lookup
      have hbi := F.called_set.init.bind (.ref s.heap.objs.size)
      repeat (any_goals (first | assumption | wp_step))
      refine codeAny_mono (codeAny_call_builtin (R := SetEndS w s zs E) F.called_set.init.plain F.entry_set_init (check_set_init_1 hT ?_)) fun r₂ s₂ hr₂ => ?_
      · obtain ⟨ol, hol, hcl, nl, hdl⟩ := hl
        obtain ⟨ocls, odict, odata, oslots⟩ := ol
        simp only at hcl hdl
        subst hcl; subst hdl
        have hol' : (pS w s).get? l = some { cls := .type "list", dict := odict, data := .seq items nl, slots := oslots } := Heap.get?_push_of_some _ hol
        have hsls := F.sub_list_set
        have hslf := F.sub_list_frozenset
        have hne : (Value.type "list" == Value.type "dict") = false := by decide
        have hl1 : (pS w s).IsList l items := ⟨_, hol', rfl, nl, rfl⟩
        unfold Builtin.«set.__init__» noKeywords Builtin.Frozenset.updateFrom
        generalize hPI : pyIter = PI
        wp_walk
        subst hPI
        refine wpAny_pyIter_list hl1 ?_
        refine wpAny_bind (wpAny_runValue ?_)
        have hlS : l < s.heap.objs.size := Heap.lt_size hol
        have hh3 : A.in1.in1.in1.handled = none := by simp [hh]
        have hz1 : (pS w s).objs.size = s.heap.objs.size + 1 := Heap.size_push ..
        have hneI : l ≠ (pS w s).objs.size := hz1 ▸ Nat.ne_of_lt (Nat.lt_succ_of_lt hlS)
        have hSf : s.heap.objs.size ∉ [(pS w s).objs.size, l] := by
          rw [hz1]
          intro z
          rcases List.mem_cons.mp z with z | z
          · exact absurd z (Nat.ne_of_lt (Nat.lt_succ_self _))
          · exact absurd (List.mem_singleton.mp z) (Nat.ne_of_gt hlS)
        refine tx_loop ((Walks.list hh3 _ l hneI items).toS) s.heap.objs.size hSf zs hisz hb (fun i v hv => str_at hit (by rw [Array.getElem?_toList]; exact hv)) (items.size - 0) 0 _ (by omega) (Nat.zero_le _) ⟨⟨_, Heap.get?_push_size _ rfl, rfl, rfl⟩, (hl1.push _)⟩ ?hS0 ?hR
        case hS0 => exact ⟨0, Nat.le_refl 0, setS_new (Heap.get?_push_of_some _ hS)⟩
        case hR =>
          intro s' c' hm hc' hS'
          obtain ⟨h', g2, d', tk', os'⟩ := s'
          have eg : g2 = s.gens := hm.gens
          have ed : d' = s.drawn := hm.drawn
          have eo : os' = s.os := hm.os
          subst eg; subst ed; subst eo
          show wpAny _ _ _ _ _ _
          refine wpAny_pure ?_
          show wpAny _ _ (ret Value.none) _ _ _
          rw [hisz] at hc'
          refine wpAny_pure ⟨rfl, h', tk', c', rfl, hS', hc', fun b o e => ?_⟩
          have hb0 : b < s.heap.objs.size := Heap.lt_size e
          refine hm.heap b o ?_ (Heap.get?_push_of_some _ (Heap.get?_push_of_some _ e))
          rw [hz1]
          intro z
          rcases List.mem_cons.mp z with z | z
          · exact absurd z (Nat.ne_of_lt hb0)
          · exact absurd (List.mem_singleton.mp z) (Nat.ne_of_lt (Nat.lt_succ_of_lt hb0))
      · cases r₂ with
        | error e => exact hr₂
        | ok fl₂ =>
          cases fl₂ with
          | ret r =>
            obtain ⟨rfl, h', tk, c', rfl, hS', hc', hk'⟩ := hr₂
            repeat (any_goals (first | assumption | wp_step))
            exact h _ _ _ hS' hc' hk'
          | _ => exact hr₂.elim
    | _ => exact hr.elim
theorem strs_of : ∀ (l : List Value), (∀ v ∈ l, ∃ k tk, v = Value.str k tk) → ∃ zs : List Str, Vals (zs.map V.str) l
  | [], _ => ⟨[], .nil⟩
  | v :: l, h => by
    obtain ⟨k, tk, rfl⟩ := h v List.mem_cons_self
    obtain ⟨zs, q⟩ := strs_of l fun u hu => h u (List.mem_cons_of_mem _ hu)
    exact ⟨k :: zs, .cons ⟨tk, rfl⟩ q⟩
theorem vals_tx : ∀ {zs : List Str} {l : List Value}, Vals (zs.map V.str) l → zs = l.map fun v => txOf (0, v)
  | [], _, .nil => rfl
  | z :: zs, _, .cons ⟨t, e⟩ r => by
    subst e
    rw [List.map_cons, ← vals_tx r]
    rfl
/-- sorted of a set of texts -/
theorem sortedT {a : Addr} {l : List Str} {n : Nat} {Q : Value → Shared → Prop} (R : SetS w s.heap a l n) (hh : A.handled = none) (h64 : n < 64)
    (hQ : ∀ s' p (out : Array Value) (c : Nat) (ys : List Str), (∀ b o, s.heap.get? b = some o → s'.heap.get? b = some o) → s'.gens = s.gens → s'.os = s.os → s.heap.objs.size ≤ p →
      s'.heap.get? p = some (seqObj "list" out c) → Vals (ys.map V.str) out.toList → sortedS ys = true → ys.Nodup → (∀ k, k ∈ ys ↔ k ∈ l) → Q (.ref p) s') :
    wpAny (model P w) A (call (.builtin "sorted") [.ref a]) Q E s := by
  obtain ⟨o, es, ep, t, ho, hx, hd, T, hn⟩ := R
  refine Calls.call_function_entry kind_sorted plain_sorted entry_sorted (args_sorted1 _) ?_
  unfold Builtin.«sorted»
  refine wpAny_bind (m := checkCount "sorted" 1 1 _) (wpAny_pure ?_)
  refine wpAny_bind (collect_set (A := A.in1) hh ⟨o, ho, hx.1, hd⟩ T.fit T.few T.ris T.led fun s1 vs k1 hz g1 o1 pm => ?_)
  have hvl : vs.length = n := by rw [pm.length_eq, List.length_map, Array.length_toList]; exact hn
  obtain ⟨zs, hV⟩ := strs_of vs fun v hv => by
    obtain ⟨e, he, q⟩ := List.mem_map.mp (pm.mem_iff.mp hv)
    obtain ⟨k, tk, h1, _⟩ := T.row e he
    exact ⟨k, tk, by rw [← q]; exact h1⟩
  have pk : zs.Perm (txL es) := by
    have q := pm.map fun v => txOf (0, v)
    rw [← vals_tx hV, List.map_map] at q
    exact q
  have hzl : zs.length = n := by
    have := hV.length
    rw [List.length_map] at this
    omega
  refine wpAny_bind (wpAny_newList ?_ (by rw [hvl, sizeLine_eq]; omega))
  have hoL : (s1.heap.push (seqObj "list" vs.toArray 0)).get? s1.heap.objs.size = some (seqObj "list" vs.toArray 0) := Heap.get?_push_size _ rfl
  have hS := hV.strs
  refine wpAny_bind (wpAny_holding (wpAny_call_entry slot_list_sort ⟨_, hoL, rfl⟩ entry_list_sort (list_sort_treeK strKind_oneLt hoL hS.keysOf (fun v₁ v₂ rest e => keyKind_strs (by rw [← e]; exact hS)) (by rw [hvl]; exact h64) fun st' hp hs => ?_) (args_list_sort _)))
  obtain ⟨ys, e1, e2, e3⟩ := sorted_out_str hS hp hs
  obtain ⟨c, hc⟩ := sortedHeap_at (vs := vs) (out := (arrOf st').map (·.2)) hoL
  have pn : ys.Perm (txL es) := e2.trans pk
  refine ⟨_, rfl, wpAny_pure ⟨_, rfl, hQ _ s1.heap.objs.size _ c ys (fun b u e => ?_) g1 o1 hz hc (vals_of_strs e1) e3 (pn.nodup_iff.mpr T.nd) (fun k => by rw [pn.mem_iff, T.mem k])⟩⟩
  have q := k1 b u e
  have hlt := Heap.lt_size q
  show (sortedHeap (s1.heap.push (seqObj "list" vs.toArray 0)) s1.heap.objs.size vs ((arrOf st').map (·.2))).get? b = some u
  rw [sortedHeap_old (Nat.ne_of_lt hlt) (by rw [Heap.size_push]; exact Nat.lt_succ_of_lt hlt)]
  exact Heap.get?_push_of_some _ q
end
end LW

/-! LwYh: sorted(set(list of texts)) as data; how mirrors with dicts, texts and sets run. -/
namespace LW
open PySem L2 PySem.Spec PyProof.Rows
def insN (x : Str) : List Str → List Str
  | [] => [x]
  | y :: r => if x = y then y :: r else if leS x y then x :: y :: r else y :: insN x r
def sortN (zs : List Str) : List Str := zs.foldr insN []
theorem mem_insN {x k : Str} : ∀ {l : List Str}, k ∈ insN x l ↔ k = x ∨ k ∈ l
  | [] => by simp [insN]
  | y :: r => by
    unfold insN
    split
    · rename_i h
      subst h
      simp
    · split
      · simp
      · rw [List.mem_cons, mem_insN, List.mem_cons, ← or_assoc, ← or_assoc, or_comm (a := k = y)]
theorem mem_sortN {k : Str} : ∀ {zs : List Str}, k ∈ sortN zs ↔ k ∈ zs
  | [] => by simp [sortN]
  | z :: r => by
    show k ∈ insN z (sortN r) ↔ _
    rw [mem_insN, mem_sortN, List.mem_cons]
theorem pw_insN {x : Str} : ∀ {l : List Str}, l.Pairwise leS ∧ l.Nodup → (insN x l).Pairwise leS ∧ (insN x l).Nodup
  | [], _ => ⟨List.pairwise_singleton _ _, by simp [insN]⟩
  | y :: r, ⟨h, n⟩ => by
    obtain ⟨h1, h2⟩ := List.pairwise_cons.mp h
    obtain ⟨n1, n2⟩ := List.nodup_cons.mp n
    unfold insN
    split
    · exact ⟨h, n⟩
    · rename_i ne
      split
      · rename_i hx
        have nx : x ∉ y :: r := fun z => by
          rcases List.mem_cons.mp z with z | z
          · exact ne z
          · exact ne (leS_anti hx (h1 x z))
        refine ⟨List.pairwise_cons.mpr ⟨fun z hz => ?_, h⟩, List.nodup_cons.mpr ⟨nx, n⟩⟩
        rcases List.mem_cons.mp hz with rfl | hz
        · exact hx
        · exact leS_trans hx (h1 z hz)
      · rename_i hx
        obtain ⟨i1, i2⟩ := pw_insN (x := x) ⟨h2, n2⟩
        refine ⟨List.pairwise_cons.mpr ⟨fun z hz => ?_, i1⟩, List.nodup_cons.mpr ⟨fun z => ?_, i2⟩⟩
        · rcases mem_insN.mp hz with rfl | hz
          · exact (leS_total z y).resolve_left hx
          · exact h1 z hz
        · rcases mem_insN.mp z with z | z
          · exact ne z.symm
          · exact n1 z
theorem pw_sortN : ∀ {zs : List Str}, (sortN zs).Pairwise leS ∧ (sortN zs).Nodup
  | [] => ⟨List.Pairwise.nil, List.nodup_nil⟩
  | z :: r => pw_insN (pw_sortN (zs := r))
theorem sortN_uniq {l zs : List Str} (h : l.Pairwise leS) (n : l.Nodup) (m : ∀ k, k ∈ l ↔ k ∈ zs) : l = sortN zs :=
  ((List.perm_ext_iff_of_nodup n pw_sortN.2).mpr fun k => (m k).trans mem_sortN.symm).eq_of_pairwise (le := leS) (fun a b _ _ h1 h2 => leS_anti h1 h2) h pw_sortN.1
theorem len_insN {x : Str} : ∀ {l : List Str}, (insN x l).length ≤ l.length + 1
  | [] => by simp [insN]
  | y :: r => by
    unfold insN
    split
    · simp
    · split
      · simp
      · have := len_insN (x := x) (l := r)
        simp
        omega
theorem len_sortN : ∀ {zs : List Str}, (sortN zs).length ≤ zs.length
  | [] => by simp [sortN]
  | z :: r => by
    have h1 := len_insN (x := z) (l := sortN r)
    have h2 := len_sortN (zs := r)
    show (insN z (sortN r)).length ≤ _
    rw [List.length_cons]
    omega
def tSN (K : PySem.W.Frag) (ta : TE) : TE := fun σ H Q => ta σ H fun x H1 => ∃ (l : Addr) (zs : List Str), x = .ref l ∧ SqL K H1 l (zs.map V.str) ∧ zs.length < 64 ∧ ∀ p, H1 p = none → Q (.ref p) (upd H1 p (.lst ((sortN zs).map V.str)))
section
variable {X : Cx}
theorem pe_sn {a : Expr} {ta : TE} {p p2 q pos : Pos} (hc : X.calm = true) (hg : Gl X "sorted") (hm : X.mg "sorted" = none) (hg2 : Gl X "set") (hm2 : X.mg "set" = none) (ha : PE X a ta)
    (na : starEach [a] X.env = (false, eval a X.env) :: starEach [] X.env := by rfl) : PE X (.Call (.Name "sorted" p) [.Call (.Name "set" p2) [a] [] q] [] pos) (tSN X.K ta) := by
  refine ⟨fun pins s σ H Q I h => ?_⟩
  refine Call_ (ld_blt I hg hm (u := .builtin "sorted") (by decide +kernel) ?_)
  refine PyProof.Rows.callWith_builtin1 (PyProof.Rows.args_cons ?_ rfl) rfl rfl
  refine Call_ (ld_blt I hg2 hm2 PyProof.Rows.boot_set ?_)
  refine PyProof.Rows.callWith_type1 (PyProof.Rows.args_cons (thn (ha.run pins s σ H _ I h) fun v s1 ⟨x, H1, I1, r1, q1⟩ => PyProof.Rows.args_nil ?_) na) na rfl
  obtain ⟨l, zs, rfl, hq, h64, q1⟩ := q1
  cases r1
  obtain ⟨its, r, pl, hz⟩ := I1.list hq
  refine setT zs (I1.ok.hd hc) pl.isList (by simpa using r) (by unfold scanBound; omega) fun h' tk c hS hc' hk => ?_
  refine PyProof.Rows.args_nil ?_
  have I2 : Inv X pins σ H1 { s1 with heap := h', toks := tk } := I1.kept hk
  refine sortedT hS (I2.ok.hd hc) (by omega) fun s' p out cc ys k g o hp hgt hv hs hnd hmm => ?_
  have e1 : ys = sortN zs := sortN_uniq (sorted_pw ys hs) hnd hmm
  have hlen : (ys.map V.str).length ≤ sizeLine := by
    rw [List.length_map, e1, sizeLine_eq]
    have := len_sortN (zs := zs)
    omega
  have hn : H1 p = none := I2.hok.fresh hp
  have J : Inv X pins σ (upd H1 p (.lst (ys.map V.str))) { s1 with heap := s'.heap, gens := s'.gens, drawn := s'.drawn, toks := s'.toks } :=
    L2.Inv.call (s := { s1 with heap := h', toks := tk }) (ch := []) I2 (Un.laid k hp hn) (I2.hok.laid k hp ⟨hlen, out.toList, cc, hv, hgt⟩) (by rw [g]; exact I2.bare) (fun _ z => nomatch z)
  have e : s' = { s1 with heap := s'.heap, gens := s'.gens, drawn := s'.drawn, toks := s'.toks } := by
    cases s'
    cases s1
    cases o
    rfl
  rw [e]
  refine ⟨.ref p, _, J, rfl, ?_⟩
  rw [e1]
  exact q1 p hn
end
def eSN (fa : SE) : Fx (List D) := fun env st => match fa env st with
  | some (x, s1) => (match lstS s1 x with
    | some zs => if zs.length < 64 then some ((sortN zs).map D.str, s1) else none
    | none => none)
  | none => none
theorem d_sn {mg : Glob} {X : Cx} {a : Expr} {fa : SE} {p p2 q pos : Pos} (hc : X.calm = true) (hm : X.mg "sorted" = none) (hm2 : X.mg "set" = none) (ha : PE X a (tP mg fa)) (hg : Gl X "sorted" := by rfl) (hg2 : Gl X "set" := by rfl)
    (na : starEach [a] X.env = (false, eval a X.env) :: starEach [] X.env := by rfl) (hK : X.K = mg.K := by rfl) : PE X (.Call (.Name "sorted" p) [.Call (.Name "set" p2) [a] [] q] [] pos) (tL mg (eSN fa)) :=
  pe_weak (pe_sn hc hg hm hg2 hm2 ha na) fun σ H Q ⟨E, N, c, env, st, d, st', R, z, k⟩ => by
    unfold eSN at z
    split at z
    · rename_i x s1 z1
      split at z
      · rename_i zs hn
        split at z
        · rename_i hl
          cases z
          refine ⟨E, N, c, env, st, x, _, R, z1, fun v N1 c1 H1 x1 W1 r1 => ?_⟩
          obtain ⟨l, rfl, hq⟩ := RepT.strs W1 r1 hn
          refine ⟨l, zs, rfl, hK ▸ hq, hl, fun p hp => ?_⟩
          exact k _ _ c1 _ (x1.trans (Ex.laidN W1 hp) R.wd) (W1.laidN hp) (back_N R.wd x1 W1 (RN.laid W1 hp (RepL.strs _)))
        · cases z
      · cases z
    · cases z
/-! ### how mirrors run -/
section
variable {env : Env} {st : Sto} {Q : D → Sto → Prop} {QL : List D → Sto → Prop} {QK : DK → Sto → Prop} {QS : Out → Sto → Prop} {QI : Src → Sto → Prop} {i : Nat} {fe fj fk : SE} {f : Fx DK} {fs : SA}
theorem z_ownD (h : Ok (f env st) fun d s => QS (.nx (env.set i (.ownD d.1 d.2))) s) : Ok (sOwnD i f env st) QS := by
  obtain ⟨d, s1, e1, h⟩ := h
  exact ⟨_, s1, by unfold sOwnD; rw [e1], h⟩
theorem z_D (h : Ok (f env st) fun d s => Q (.dic d.1 d.2) s) : Ok (eD f env st) Q := by
  obtain ⟨d, s1, e1, h⟩ := h
  exact ⟨_, s1, by unfold eD; rw [e1]; rfl, h⟩
theorem z_d0 (h : QK ([], []) st) : Ok (lD0 env st) QK := ⟨_, st, rfl, h⟩
theorem z_sn (h : Ok (fe env st) fun x s => ∃ zs, lstS s x = some zs ∧ zs.length < 64 ∧ QL ((sortN zs).map D.str) s) : Ok (eSN fe env st) QL := by
  obtain ⟨x, s1, e1, zs, e2, l, q⟩ := h
  exact ⟨_, s1, by unfold eSN; rw [e1]; dsimp only; rw [e2]; dsimp only; rw [if_pos l], q⟩
end
end LW

/-! LwZa: == and != of dicts whose values are instances with an own __eq__ (the heap grows meanwhile). -/
namespace PySem.W
open PySem PySem.Calls PyProof.Rows PyProof.V PySem.Spec
section
variable {prog : Program} {w : World} {K : Type} [DecidableEq K] {knd : KeyKind prog w K} {A : Around} {E : Value → Shared → Prop} {s : Shared}
end
end PySem.W

/-! LwZb: == and != of dicts of instances with an own __eq__, as data. -/
namespace LW
open PySem L2 PyProof.Rows
/-! ### mirrors that leave the store -/
/-! ### two equal items -/
section
variable {mg : Glob} {X : Cx} {pins : List (Addr × Obj)} {σ : L2.St} {H : Hp} {s : Shared} {N : Prot} {c : List Addr} {st : Sto} {k : Nat} {C : Addr} {cs : List Str} {g : FM} {cn : Str} {E : Value → Shared → Prop}
theorem Ex.unlock {a : Addr} {od : Obj} {kvs : List (Key × V)} {N' : Prot} {c' : List Addr} {H' : Hp} (ha : H a = some (.dK kvs)) (x : Ex N c (upd H a (.frz od (.dK kvs))) N' c' H') : Ex N c H N' c' (upd H' a (.dK kvs)) := by
  refine ⟨fun b o e nb => ?_, fun b z => ?_, x.mono, x.pre, fun b z => ?_⟩
  · by_cases z : b = a
    · subst z
      rw [ha] at e
      cases e
      exact upd_same
    · rw [upd_ne z]
      exact x.keep b o (by rw [upd_ne z]; exact e) nb
  · rcases x.new b z with y | y
    · exact .inl y
    · by_cases w : b = a
      · subst w; rw [upd_same] at y; cases y
      · rw [upd_ne w] at y; exact .inr y
  · rcases x.newc b z with y | y
    · exact .inl y
    · by_cases w : b = a
      · subst w; rw [upd_same] at y; cases y
      · rw [upd_ne w] at y; exact .inr y
end
section
variable {X : Cx} {k : Nat} {C : Addr} {cs : List Str} {g : FM} {cn : Str} {a b : Expr} {pos : Pos} {fa fb : SE}
end
end LW

/-! LwZc: for over the keys of a dict; a, b = {}, {}; list * int. -/
namespace LW
open PySem L2 PyProof.Rows
section
variable {mg : Glob} {N N' : Prot} {c c' : List Addr} {H H' : Hp} {st st' : Sto} {E : En} {env env' : Env} {σ σ' : L2.St} {a : Addr} {od : Obj} {kvs : List (Key × V)}
/-- the entry as seen while the dict at a is locked -/
def En.lk (E : En) (a : Addr) (o : HO) : En := ⟨upd E.H0 a o, E.N0, E.c0, E.self⟩
/-- what the entry's heap says of a dict that stands here -/
theorem Rel.at0 (R : Rel mg E N c env st σ H) (h : H a = some (.dK kvs)) (n : ¬ N a) {o : HO} (e : E.H0 a = some o) : o = .dK kvs := by
  have := R.base a o e fun z => n (R.wd.cn a z)
  rw [h] at this
  cases this
  rfl
theorem Sx.unlock (ha : H a = some (.dK kvs)) (n : ¬ N a) (x : Sx N c (upd H a (.frz od (.dK kvs))) N' c' H') : Sx N c H N' c' (upd H' a (.dK kvs)) := by
  refine ⟨fun b o e nb => ?_, fun b z => ?_, x.pre, fun b z => ?_, fun b e => ?_, fun b us e => ?_⟩
  · by_cases z : b = a
    · subst z
      rw [ha] at e
      cases e
      exact upd_same
    · rw [upd_ne z]
      exact x.keep b o (by rw [upd_ne z]; exact e) nb
  · rcases x.new b z with y | y
    · exact .inl y
    · by_cases w : b = a
      · subst w; rw [upd_same] at y; cases y
      · rw [upd_ne w] at y; exact .inr y
  · rcases x.newc b z with y | y
    · exact .inl y
    · by_cases w : b = a
      · subst w; rw [upd_same] at y; cases y
      · rw [upd_ne w] at y; exact .inr y
  · by_cases w : b = a
    · subst w; rw [upd_same] at e; cases e
    · rw [upd_ne w] at e
      have := x.trk b e
      rwa [upd_ne w] at this
  · have z : b ≠ a := fun z => by rw [z, ha] at e; cases e
    rw [upd_ne z]
    exact x.tup b us (by rw [upd_ne z]; exact e)
theorem Fin.unlock {v : V} {d : D} (R : Rel mg E N c env st σ H) (h : H a = some (.dK kvs)) (n : ¬ N a) (F : Fin mg (E.lk a (.frz od (.dK kvs))) c' st' H' v d) : H' a = some (.frz od (.dK kvs)) ∧ Fin mg E c' st' (upd H' a (.dK kvs)) v d := by
  have nc : a ∉ c' := fun z => by
    rcases F.newc a z with q | q
    · obtain ⟨k, hk⟩ := List.getElem?_of_mem (show a ∈ E.c0 from q)
      exact n (R.wd.cn a (List.mem_of_getElem? (R.pre k a hk)))
    · have q : upd E.H0 a _ a = none := q
      rw [upd_same] at q; cases q
  have hf : H' a = some (.frz od (.dK kvs)) := F.base a _ upd_same nc
  have n' : ¬ (E.N0 a ∨ a ∈ c') := fun z => z.elim (fun q => n (R.n0 a q)) nc
  have l : Lk (fun a => E.N0 a ∨ a ∈ c') H' (upd H' a (.dK kvs)) := lk_unlock hf n'
  refine ⟨hf, F.wd.lk l, F.rep.lk l, fun b o e nb => ?_, F.pre, fun b z => ?_⟩
  · by_cases z : b = a
    · subst z
      rw [upd_same, R.at0 h n e]
    · rw [upd_ne z]
      refine F.base b o ?_ nb
      show upd E.H0 a _ b = some o
      rw [upd_ne z]
      exact e
  · have nb : b ≠ a := fun q => nc (q ▸ z)
    have this : _ ∨ upd E.H0 a _ b = none := F.newc b z
    rw [upd_ne nb] at this
    exact this
end
section
variable {mg : Glob} {X : Cx} {tg : Expr} {body : List Stmt} {pos : Pos} {fb : SS} {asg : D → Env → Option Env} {g : TG} {is : List Nat}
theorem ps_lockOr {s : Stmt} {t : TS} (h : PS X s t) : PS X s (fun D σ H => tLock t D σ H ∨ t D σ H) := ⟨fun pins s σ H D I q => q.elim (fun z => (ps_lock h).run pins s σ H D I z) fun z => h.run pins s σ H D I z⟩
end
/-! ### a, b = two new things -/
section
variable {mg : Glob} {X : Cx} {e a b : Expr} {pos : Pos} {fe : SE} {fl : Fx (List D)} {fd : Fx DK} {fa fb : Fx Sl}
end
/-! ### list * int -/
section
variable {mg : Glob} {N : Prot} {c : List Addr} {H : Hp} {X : Cx} {a b : Expr} {pos : Pos} {fa fb : SE}
theorem RepL.rep {vs : List V} {ds : List D} (r : RepL mg N c H vs ds) : ∀ n : Nat, RepL mg N c H (List.replicate n vs).flatten (List.replicate n ds).flatten
  | 0 => .nil
  | n + 1 => by
    rw [List.replicate_succ, List.replicate_succ, List.flatten_cons, List.flatten_cons]
    exact r.append (RepL.rep r n)
end
end LW

/-! LwZd: {k: v for .. in .. if ..}. -/
namespace LW
open PySem L2 PyProof.Rows
section
variable {mg : Glob}
/-- a protected thing that nobody else holds changes -/
theorem Rel.growO {E : En} {N : Prot} {c : List Addr} {env : Env} {st : Sto} {σ : L2.St} {H : Hp} {p : Addr} {o : HO} (R : Rel mg E N c env st σ H) (np : N p) (nc : p ∉ c) (h0 : E.H0 p = none) (hp : ∃ o, H p = some o ∧ ∀ us, o ≠ .tup us) (nw : ∀ (j : Nat) s, env[j]? = some s → s.isOwn = true → σ[j]? ≠ some (some (.ref p))) :
    Rel mg E N c env st σ (upd H p o) ∧ Sx N c H N c (upd H p o) := by
  have keep : ∀ b u, H b = some u → ¬ N b → (upd H p o) b = some u := fun b u e n => by
    rw [upd_ne (show b ≠ p from fun z => n (z ▸ np))]; exact e
  have tk : ∀ b, (upd H p o) b = none → H b = none := fun b e => by
    by_cases q : b = p
    · rw [q, upd_same] at e; cases e
    · rw [upd_ne q] at e; exact e
  have sx : Sx N c H N c (upd H p o) := ⟨keep, fun _ z => .inl z, fun _ _ z => z, fun _ z => .inl z, tk, fun b us e => by rw [upd_ne (fun z => by obtain ⟨o, h1, h2⟩ := hp; rw [z, h1] at e; cases e; exact h2 us rfl)]; exact e⟩
  refine ⟨⟨R.len, fun j s' e => ?_, R.own, R.inj, ?_, R.n0, R.t0, fun b u e n => ?_, R.pre, R.newc, R.slf⟩, sx⟩
  · have q := R.sl j s' e
    cases s' with
    | un => trivial
    | val d => obtain ⟨v, ev, rv⟩ := q; exact ⟨v, ev, rv.tr sx.tr⟩
    | own ys =>
      obtain ⟨b, us', ev, hb', rv⟩ := q
      have : b ≠ p := fun z => nw j _ e rfl (by rw [← z]; exact join_some ev)
      exact ⟨b, us', ev, by rw [upd_ne this]; exact hb', rv.tr sx.tr⟩
    | ownI cn ns ds =>
      obtain ⟨b, C, dx, fs, ev, hc, hb', hn, rv⟩ := q
      have : b ≠ p := fun z => nw j _ e rfl (by rw [← z]; exact join_some ev)
      exact ⟨b, C, dx, fs, ev, hc, by rw [upd_ne this]; exact hb', hn, rv.tr sx.tr⟩
    | ownD ks ds =>
      obtain ⟨b, kvs, ev, hb', hn, rv⟩ := q
      have : b ≠ p := fun z => nw j _ e rfl (by rw [← z]; exact join_some ev)
      exact ⟨b, kvs, ev, by rw [upd_ne this]; exact hb', hn, rv.tr sx.tr⟩
    | ownT ks ds =>
      obtain ⟨b, kvs, ev, hb', hn, rv⟩ := q
      have : b ≠ p := fun z => nw j _ e rfl (by rw [← z]; exact join_some ev)
      exact ⟨b, kvs, ev, by rw [upd_ne this]; exact hb', hn, rv.tr sx.tr⟩
  · exact ⟨R.wd.len, fun k b ys h1 h2 => by
      obtain ⟨us', hb', rr⟩ := R.wd.sto k b ys h1 h2
      exact ⟨us', by rw [upd_ne (show b ≠ p from fun z => nc (z ▸ List.mem_of_getElem? h1))]; exact hb', rr.tr sx.tr⟩, R.wd.cn, R.wd.nd, fun b z e => R.wd.trk b z (tk b e)⟩
  · have : b ≠ p := fun z => by rw [z, h0] at e; cases e
    rw [upd_ne this]
    exact R.base b u e n
end
def dcM (chk : Sto → Bool) (asg : D → Env → Option Env) (cond : SB) (fk fv : SE) (env0 : Env) : List D → DK → Sto → Option (DK × Sto)
  | [], acc, st => if chk st = true then some (acc, st) else none
  | d :: ds, acc, st => if chk st = true then (match asg d env0 with
    | none => none
    | some e1 => match cond e1 st with
      | none => none
      | some (false, s1) => dcM chk asg cond fk fv env0 ds acc s1
      | some (true, s1) => match fk e1 s1 with
        | none => none
        | some (y, s2) => match fv e1 s2 with
          | none => none
          | some (z, s3) => match keyD y with
            | none => none
            | some k => dcM chk asg cond fk fv env0 ds (putKD acc k z) s3) else none
def dComp (fi : Fx Src) (asg : D → Env → Option Env) (cond : SB) (fk fv : SE) (vs : List Nat) : Fx DK := fun env st => match fi env st with
  | none => none
  | some (xs, s1) => if xs.1.length ≤ 1000000 then dcM xs.2 asg cond fk fv (wipeE env vs) xs.1 ([], []) s1 else none
theorem putKD_len {acc : DK} {k : Key} {z : D} : (putKD acc k z).1.length ≤ acc.1.length + 1 := by
  unfold putKD
  split
  · exact Nat.le_succ _
  · show (acc.1 ++ [k]).length ≤ _
    rw [List.length_append]
    exact Nat.le_refl _
section
variable {mg : Glob} {fi : Fx Src} {asg : D → Env → Option Env} {cond : SB} {fk fv : SE} {g : TG} {is vs : List Nat}
theorem r_dc (hg : GOk mg g asg is) (hv : ∀ i ∈ is, i ∈ vs) {σ : L2.St} {H : Hp} {Q : VK} (h : tD mg (dComp fi asg cond fk fv vs) σ H Q) : tDc (tI mg fi) g (tT mg cond) (tE mg fk) (tE mg fv) vs σ H Q := by
  obtain ⟨E, N, c, env, st, d, st', R, q, k⟩ := h
  unfold dComp at q
  split at q
  · cases q
  · rename_i src s1 q1
    obtain ⟨xs, chk⟩ := src
    split at q
    · rename_i hl
      have hl : xs.length ≤ 1000000 := hl
      refine ⟨E, N, c, env, st, (xs, chk), s1, R, q1, fun J N1 c1 H1 x1 W1 il => fun p hp => ?_⟩
      have R1 := R.ex x1 W1
      have x2 := Ex.laidN (o := .dK []) W1 hp
      have W2 := W1.laidN (o := .dK []) hp
      have h0 : E.H0 p = none := R1.fresh0 hp
      have hpH : H p = none := x1.free R.wd W1 hp
      have nw := (R1.wipe vs).notOwn hp
      refine ⟨fun i m H' => m = xs.length - i ∧ i ≤ xs.length ∧ ∃ N' c' st2 ad kvs, Ex N c H N' c' H' ∧ Sx N1 c1 H1 N' c' H' ∧ Rel mg E N' c' (wipeE env vs) st2 (L2.wipe σ vs) H' ∧ N' p ∧ p ∉ c' ∧ H' p = some (.dK kvs) ∧ kvs.map (·.1) = ad.1 ∧ RepL mg N' c' H' (kvs.map (·.2)) ad.2 ∧ ad.1.length ≤ i ∧
        dcM chk asg cond fk fv (wipeE env vs) (xs.drop i) ad st2 = some (d, st'),
        ⟨xs.length, by omega, Nat.zero_le _, _, c1, s1, ([], []), [], x1.trans x2 R.wd, x2.sx W1 W2, (R1.ex x2 W2).wipe vs, .inr rfl, W1.cnone hp, upd_same, rfl, .nil, Nat.zero_le _, by rw [List.drop_zero]; exact q⟩, ?_⟩
      rintro i m H' ⟨rfl, hi, N', c', st2, ad, kvs, ex, sx, R', np, nc, hpv, hm, ra, la, ql⟩
      by_cases hlt : i < xs.length
      · have ed0 : xs.drop i = xs[i] :: xs.drop (i + 1) := List.drop_eq_getElem_cons hlt
        rw [ed0] at ql
        unfold dcM at ql
        split at ql
        · rename_i hck
          refine .inr ⟨il.go i N' c' H' st2 hlt sx R'.wd hck, fun H3 => ∃ N' c' st2 ad kvs, Ex N c H N' c' H3 ∧ Sx N1 c1 H1 N' c' H3 ∧ Rel mg E N' c' (wipeE env vs) st2 (L2.wipe σ vs) H3 ∧ N' p ∧ p ∉ c' ∧ H3 p = some (.dK kvs) ∧ kvs.map (·.1) = ad.1 ∧ RepL mg N' c' H3 (kvs.map (·.2)) ad.2 ∧ ad.1.length ≤ i + 1 ∧
            dcM chk asg cond fk fv (wipeE env vs) (xs.drop (i + 1)) ad st2 = some (d, st'), fun H3 z => ⟨xs.length - (i + 1), by omega, rfl, hlt, z⟩, fun x H2 y => ?_⟩
          obtain ⟨d0, hd0, x3, W3, r3⟩ := il.yld i N' c' H' st2 x H2 hlt sx R'.wd hck y
          have ed2 : xs[i] = d0 := by
            obtain ⟨_, e⟩ := List.getElem?_eq_some_iff.mp hd0
            exact e
          rw [ed2] at ql
          split at ql
          · cases ql
          · rename_i e1 ha
            have R3 := R'.ex x3 W3
            refine hg E N' c' _ e1 st2 _ H2 x d0 _ R3 r3 ha fun σ4 R4 df => ⟨by rw [df vs hv]; exact wipe_idem fun _ z => z, ?_⟩
            split at ql
            · cases ql
            · rename_i sA qc
              refine ⟨E, N', c', e1, st2, false, sA, R4, qc, fun N5 c5 H5 x5 W5 => iteF ?_⟩
              have x35 := x3.trans x5 R'.wd
              exact ⟨N5, c5, sA, ad, kvs, ex.trans x35 R.wd, sx.trans (x35.sx R'.wd W5), R3.ex x5 W5, x5.mono p np, x35.nc R'.wd hpv nc, x35.keep p _ hpv nc, hm, ra.tr (x35.tr R'.wd), Nat.le_succ_of_le la, ql⟩
            · rename_i sA qc
              split at ql
              · cases ql
              · rename_i y1 sB qe
                split at ql
                · cases ql
                · rename_i z1 sC qz
                  split at ql
                  · cases ql
                  · rename_i kk hk
                    refine ⟨E, N', c', e1, st2, true, sA, R4, qc, fun N5 c5 H5 x5 W5 => iteT ?_⟩
                    have R5 := R4.ex x5 W5
                    refine ⟨E, N5, c5, e1, sA, y1, sB, R5, qe, fun w N6 c6 H6 x6 W6 r6 => ?_⟩
                    refine ⟨E, N6, c6, e1, sB, z1, sC, R5.ex x6 W6, qz, fun u N7 c7 H7 x7 W7 r7 => ?_⟩
                    have x37 := ((x3.trans x5 R'.wd).trans x6 R'.wd).trans x7 R'.wd
                    have hp7 := x37.keep p _ hpv nc
                    have nc7 := x37.nc R'.wd hpv nc
                    have np7 := x37.mono p np
                    have ra7 := ra.tr (x37.tr R'.wd)
                    have ln : kvs.length = ad.1.length := by rw [← hm, List.length_map]
                    obtain ⟨m1, m2⟩ := put_rel (k := kk) r7 ra7
                    rw [hm] at m1 m2
                    refine ⟨kvs, kk, RepT.key (.inl r6) hk, hp7, sz7 (by omega), ?_⟩
                    have R7 : Rel mg E N7 c7 (wipeE env vs) sC (L2.wipe σ vs) H7 := R'.ex x37 W7
                    obtain ⟨Rg, sg⟩ := R7.growO (o := .dK (putK kvs kk u)) np7 nc7 h0 ⟨_, hp7, by simp⟩ nw
                    have exT := ex.trans x37 R.wd
                    refine ⟨N7, c7, sC, putKD ad kk z1, putK kvs kk u, ⟨fun a o e n => ?_, exT.new, exT.mono, exT.pre, exT.newc⟩, (sx.trans (x37.sx R'.wd W7)).trans sg, Rg, np7, nc7, upd_same, m1, m2.tr sg.tr, Nat.le_trans putKD_len (Nat.succ_le_succ la), ql⟩
                    rw [upd_ne (ne_of_none e hpH)]
                    exact exT.keep a o e n
        · cases ql
      · have e : i = xs.length := by omega
        subst e
        rw [List.drop_length] at ql
        unfold dcM at ql
        split at ql
        · rename_i hck
          cases ql
          exact .inl ⟨il.stop N' c' H' _ sx R'.wd hck, k _ N' c' H' ex R'.wd ⟨p, kvs, rfl, hpH, np, nc, hpv, hm, ra⟩⟩
        · cases ql
    · cases q
variable {X : Cx} {kx vx tg iter : Expr} {ifs : List Expr} {scope : Scope} {own : List (Str × Nat)} {pos : Pos}
/-- {k: v for target in iter if ..} -/
theorem d_dc (hc : X.calm = true) (hN : X.N.Nodup) (hi : PI X tg iter (tI mg fi)) (ok : BlkOk X.N X.env.scope scope own)
    (hgg : ∀ (s : Shared) (H : Hp) (C : Addr) (cl : List (Str × Addr)) (fp : List Addr), PG (X.blk s H scope (compEnvC scope cl C X.env) fp) tg g) (hg : GOk mg g asg is) (hv : ∀ i ∈ is, i ∈ own.map (·.2))
    (ht : ∀ (s : Shared) (H : Hp) (C : Addr) (cl : List (Str × Addr)) (fp : List Addr), PTs (X.blk s H scope (compEnvC scope cl C X.env) fp) ifs (tT mg cond))
    (hk : ∀ (s : Shared) (H : Hp) (C : Addr) (cl : List (Str × Addr)) (fp : List Addr), PE (X.blk s H scope (compEnvC scope cl C X.env) fp) kx (tE mg fk))
    (he : ∀ (s : Shared) (H : Hp) (C : Addr) (cl : List (Str × Addr)) (fp : List Addr), PE (X.blk s H scope (compEnvC scope cl C X.env) fp) vx (tE mg fv)) (hs : ∀ x, foldedSetIterable iter X.env x = pure x := by intro _; rfl) :
    PE X (.DictComp kx vx [⟨tg, iter, ifs, 0⟩] scope pos) (tD mg (dComp fi asg cond fk fv (own.map (·.2)))) :=
  pe_weak (pe_dc hc hN hi ok hgg ht hk he hs) fun _ _ _ h => r_dc hg hv h
/-- over the keys of a dict -/
theorem r_dcK (hg : GOk mg g asg is) (hv : ∀ i ∈ is, i ∈ own.map (·.2)) {i : Nat} {σ : L2.St} {H : Hp} {Q : VK} (h : tD mg (dComp (iKy i) asg cond fk fv (own.map (·.2))) σ H Q) :
    tLockE (tDc (tIK mg i) g (tT mg cond) (tE mg fk) (tE mg fv) (own.map (·.2))) σ H Q ∨ tDc (tIK mg i) g (tT mg cond) (tE mg fk) (tE mg fv) (own.map (·.2)) σ H Q := by
  obtain ⟨E, N, c, env, st, d, st', R, q, k⟩ := h
  have q0 := q
  unfold dComp iKy at q
  split at q
  · cases q
  · rename_i src s1 q1
    split at q1
    · rename_i ks ds he
      obtain ⟨v, ev, rv⟩ := R.sl i _ he
      have ev := join_some ev
      cases rv with
      | dfz ha n hn r => exact .inr ⟨r_dc (fi := iKy i) hg hv ⟨E, N, c, env, st, d, st', R, q0, k⟩, _, _, _, ev, ha⟩
      | dic ha n hn r =>
        rename_i a kvs _
        refine .inl ⟨a, .dK kvs, ha, trivial, fun od => ⟨?_, a, od, kvs, ev, upd_same⟩⟩
        obtain ⟨E', R'⟩ := R.lock (od := od) ha n
        show tDc (tI mg (iKy i)) g (tT mg cond) (tE mg fk) (tE mg fv) (own.map (·.2)) σ _ (fun v H' => H' a = some (.frz od (.dK kvs)) ∧ Q v (upd H' a (.dK kvs)))
        refine r_dc (fi := iKy i) hg hv ⟨E', N, c, env, st, d, st', R', q0, fun v N' c' H' x W' rn => ?_⟩
        have nc : a ∉ c := fun z => n (R.wd.cn a z)
        have hf : H' a = some (.frz od (.dK kvs)) := x.keep a _ upd_same nc
        have n' : ¬ N' a := fun z => (x.new a z).elim n fun e => by rw [upd_same] at e; cases e
        have l : Lk N' H' (upd H' a (.dK kvs)) := lk_unlock hf n'
        refine ⟨hf, k v N' c' (upd H' a (.dK kvs)) (Ex.unlock ha x) (W'.lk l) ?_⟩
        obtain ⟨p, kvs', rfl, hp, np, nc', hv', hm', rr⟩ := rn
        have hpa : p ≠ a := fun z => by rw [z, hf] at hv'; cases hv'
        exact ⟨p, kvs', rfl, by rw [upd_ne hpa] at hp; exact hp, np, nc', by rw [upd_ne hpa]; exact hv', hm', rr.lk l⟩
    · cases q1
theorem d_dcK (i : Nat) {x : Str} {p : Pos} (hc : X.calm = true) (hN : X.N.Nodup) (ok : BlkOk X.N X.env.scope scope own)
    (hgg : ∀ (s : Shared) (H : Hp) (C : Addr) (cl : List (Str × Addr)) (fp : List Addr), PG (X.blk s H scope (compEnvC scope cl C X.env) fp) tg g) (hg : GOk mg g asg is) (hv : ∀ i ∈ is, i ∈ own.map (·.2))
    (ht : ∀ (s : Shared) (H : Hp) (C : Addr) (cl : List (Str × Addr)) (fp : List Addr), PTs (X.blk s H scope (compEnvC scope cl C X.env) fp) ifs (tT mg cond))
    (hk : ∀ (s : Shared) (H : Hp) (C : Addr) (cl : List (Str × Addr)) (fp : List Addr), PE (X.blk s H scope (compEnvC scope cl C X.env) fp) kx (tE mg fk))
    (he : ∀ (s : Shared) (H : Hp) (C : Addr) (cl : List (Str × Addr)) (fp : List Addr), PE (X.blk s H scope (compEnvC scope cl C X.env) fp) vx (tE mg fv))
    (hx : X.N[i]? = some x := by rfl) (hvs : Vis X.env.scope x := by first | exact Or.inl rfl | exact Or.inr (Or.inl rfl) | exact Or.inr (Or.inr rfl)) (hd : (x == ("__debug__" : Str)) = false := by decide)
    (hcd : (x == ("__classdict__" : Str)) = false := by decide) (hs : ∀ y, foldedSetIterable (.Name x p) X.env y = pure y := by intro _; rfl) :
    PE X (.DictComp kx vx [⟨tg, .Name x p, ifs, 0⟩] scope pos) (tD mg (dComp (iKy i) asg cond fk fv (own.map (·.2)))) :=
  pe_weak (pe_lockOr (pe_dc hc hN (i_keys i hx hvs hd hcd) ok hgg ht hk he hs)) fun _ _ _ h => r_dcK hg hv h
end
/-! ### how mirrors run -/
section
variable {chk : Sto → Bool} {asg : D → Env → Option Env} {cond : SB} {fk fv : SE} {env0 e1 : Env} {st : Sto} {fi : Fx Src} {vs : List Nat} {QK : DK → Sto → Prop}
theorem z_dComp (h : Ok (fi env0 st) fun xs s1 => xs.1.length ≤ 1000000 ∧ Ok (dcM xs.2 asg cond fk fv (wipeE env0 vs) xs.1 ([], []) s1) QK) : Ok (dComp fi asg cond fk fv vs env0 st) QK := by
  obtain ⟨x, s1, e1, hl, h⟩ := h
  obtain ⟨a, s, e, q⟩ := h
  exact ⟨a, s, by unfold dComp; rw [e1]; dsimp only; rw [if_pos hl, e], q⟩
end
end LW

/-! LwZe: [e for .. in .. if .. for .. in .. if ..]. -/
namespace LW
open PySem L2 PyProof.Rows
def comp2M (chk : Sto → Bool) (asg : D → Env → Option Env) (cond : SB) (fi2 : Fx Src) (asg2 : D → Env → Option Env) (cond2 : SB) (elt : SE) (vs2 : List Nat) (env0 : Env) : List D → Sto → Option (List D × Sto)
  | [], st => if chk st = true then some ([], st) else none
  | d :: ds, st => if chk st = true then (match asg d env0 with
    | none => none
    | some e1 => match cond e1 st with
      | none => none
      | some (false, s1) => comp2M chk asg cond fi2 asg2 cond2 elt vs2 env0 ds s1
      | some (true, s1) => match fi2 e1 s1 with
        | none => none
        | some (src, s2) => match compM src.2 asg2 cond2 elt (wipeE e1 vs2) src.1 s2 with
          | none => none
          | some (ys, s3) => match comp2M chk asg cond fi2 asg2 cond2 elt vs2 env0 ds s3 with
            | none => none
            | some (zs, s4) => some (ys ++ zs, s4)) else none
def lComp2 (fi : Fx Src) (asg : D → Env → Option Env) (cond : SB) (fi2 : Fx Src) (asg2 : D → Env → Option Env) (cond2 : SB) (elt : SE) (vs vs2 : List Nat) : Fx (List D) := fun env st => match fi env st with
  | none => none
  | some (xs, s1) => match comp2M xs.2 asg cond fi2 asg2 cond2 elt vs2 (wipeE env vs) xs.1 s1 with
    | none => none
    | some (ys, s2) => if ys.length ≤ 1000000 then some (ys, s2) else none
section
variable {mg : Glob} {fi fi2 : Fx Src} {asg asg2 : D → Env → Option Env} {cond cond2 : SB} {elt : SE} {g g2 : TG} {is is2 vs vs2 : List Nat}
variable {X : Cx} {eltE tg iter tg1 iter1 : Expr} {ifs ifs1 : List Expr} {scope : Scope} {own : List (Str × Nat)} {pos : Pos}
end
end LW

/-! LwEa: exception classes of the form: def __init__(self, value=None): super().__init__(); self.value = value (turned from a worked proof with an own error). -/
namespace PySem
namespace LeafX
open PySem.W PySem.Calls PyProof.Rows PySem.HandSPX
/-! ### the text of __init__ -/
/-- what the written part says of the class at C and of its __init__ at fI -/
structure LeafTxt (P : Program) (K : Frag) (C fI : Addr) (qual : Str) : Prop where
  cls : ∃ nm q N bs bm sn sub ab col dd k0 k1 k2 k3 k5, K.lookup C = some (excClassObj nm q C N bs bm true sn sub ab col dd k0 k1 k2 k3 k5 "ValueError.__new__") ∧ refsVE bm = true ∧ alongIn K "__init__" bm = some (some (.builtin "ValueError.__init__"))
  sa : findIn K (.ref C) "__setattr__" = some (some (.builtin "object.__setattr__"))
  noN : findIn K (.ref C) "value" = some none
  iC : findIn K (.ref C) "__init__" = some (some (.ref fI))
  tC : typeIn K (.ref fI) = some (.type "function")
  exC : subIn K (.ref C) (.type "BaseException") = some true
  mro : mroIn K C (.ref C) = some true
  vaC : subIn K (.ref C) (.type "ValueError") = some true
  tyC : typeIn K (.ref C) = some (.type "type")
  opq : nsIn K cStatics "thirdparty.any" = some none
  fn : ∃ (oc T : Value) (od : Option Addr) (kV doc pm ct : Value) (an : Option Addr) (osl : Array (Option Value)) (p : Ps) (cc cda : Addr) (oT : Addr) (ot : Obj) (it : Value) (nt : Nat) (vs : Array Value) (file : Str) (tf : Tok)
      (ccl cl : Value) (cdd cld : Option Addr) (ccs csl : Array (Option Value)),
    K.lookup fI = some ⟨oc, od, .func (fnX "__init__" qual (iA p) (iB p) iS [("__class__", cc)] (.ref oT) kV doc pm an (.ref cda) ct), osl⟩ ∧ codeIn K (.ref cda) qual = true ∧
    K.lookup oT = some ot ∧ ot.data = .seq #[it] nt ∧ it = .none ∧
    K.lookup cda = some ⟨ccl, cdd, .fields vs, ccs⟩ ∧ vs[2]? = some (.str file tf) ∧ ((P.main.file : Str) == file) = true ∧
    K.lookup cc = some ⟨cl, cld, .cell (some (.ref C)), csl⟩ ∧ (p.a3.endLine == p.a4.line) = true
  top : (P.main.scope.names.lookup ("super" : Str)).isSome = false
/-- what __init__ leaves of a fresh exception at x -/
structure InitEnd (h h' : Heap) (x C dx t1 : Addr) (v : Value) : Prop where
  keep : ∀ b o, b ≠ x → h.get? b = some o → h'.get? b = some o
  obj : h'.get? x = some { cls := .ref C, dict := some dx, data := .fields #[.ref t1, .none, .none, .none, .bool false, .none] }
  dbig : h.objs.size ≤ dx
  dne : dx ≠ x
  ns : h'.Ns1 dx (fun y => if y = "value" then some v else none)
section
variable {prog : Program} {w : World} {A : Around} {E : Value → Shared → Prop} {R : Result → Shared → Prop} {s : Shared} {K : Frag} {mg mb : Str → Option Value} {C fI : Addr} {qual : Str}
/-- a made one -/
structure OwnMade (h h' : Heap) (e C d : Addr) (v : Value) : Prop where
  keep : ∀ b o, h.get? b = some o → h'.get? b = some o
  new : h.objs.size ≤ e
  obj : ∃ oe vs, h'.get? e = some oe ∧ oe.cls = .ref C ∧ oe.dict = some d ∧ oe.data = .fields vs ∧ vs[1]? = some .none
  dbig : h.objs.size ≤ d
  dne : d ≠ e
  ns : h'.Ns1 d (fun y => if y = "value" then some v else none)
end
end LeafX
end PySem

/-! LwEb: several except clauses, some with a name; an own error is raised. (The first proof is turned from the rules for clauses without a name and for one clause with a name.) -/
namespace L2
open PySem PySem.Spec PyProof.Rows
inductive HdsN (X : Cx) : List ExceptHandler → List (Value × Option Nat × (Addr → Value → Option Addr → TS)) → Prop
  | nil : HdsN X [] []
  | cons {x : Str} {c : Value} {ts : Addr → Value → Option Addr → TS} {b₀ : Stmt} {suite : List Stmt} {np pos' : Pos} {hds : List ExceptHandler} {l : List (Value × Option Nat × (Addr → Value → Option Addr → TS))} (hc : Names X x c)
      (hsu : ∀ (a : Addr) (oe : Obj) (cls : Value) (d : Option Addr) (pn : List (Addr × Obj)), Zc cls d oe → (∃ vs, oe.data = .fields vs) → PSs (X.suite a ((a, oe) :: pn)) (b₀ :: suite) (ts a cls d)) (r : HdsN X hds l) :
      HdsN X (.ExceptHandler (some (.Name x np)) none (b₀ :: suite) pos' :: hds) ((c, none, ts) :: l)
  | consAs {x n : Str} {i : Nat} {c : Value} {ts : Addr → Value → Option Addr → TS} {b₀ : Stmt} {suite : List Stmt} {np pos' : Pos} {hds : List ExceptHandler} {l : List (Value × Option Nat × (Addr → Value → Option Addr → TS))} (hi : X.N[i]? = some n) (hln : X.env.kindOf n = some .local) (hc : Names X x c)
      (hsu : ∀ (a : Addr) (oe : Obj) (cls : Value) (d : Option Addr) (pn : List (Addr × Obj)), Zc cls d oe → (∃ vs, oe.data = .fields vs) → PSs (X.suite a ((a, oe) :: pn)) (b₀ :: suite) (ts a cls d)) (r : HdsN X hds l) :
      HdsN X (.ExceptHandler (some (.Name x np)) (some n) (b₀ :: suite) pos' :: hds) ((c, some i, ts) :: l)
section
variable {X : Cx} {body : List Stmt} {h₀ : ExceptHandler} {hds : List ExceptHandler} {l : List (Value × Option Nat × (Addr → Value → Option Addr → TS))} {pos : Pos} {tb : WX → TS} {Wout : WX}
end
section
variable {X : Cx} {C fI : Addr} {qual x : Str}
end
end L2

/-! LwEc: statements and expressions that may raise, by plain functions; defs that may raise. -/
namespace LW
open PySem L2 PyProof.Rows

/-- an exception of the class cn whose value is d -/
def XcL (mg : Glob) (N : Prot) (c : List Addr) (H : Hp) (cls : Value) (dd : Option Addr) (cn : Str) (d : D) : Prop :=
  ∃ C da v, cls = .ref C ∧ dd = some da ∧ mg.mg cn = some (.ref C) ∧ H da = some (.xd [(("value" : Str), v)]) ∧ ¬ N da ∧ Rep mg N c H v d
/-- what stands for the value of an exception of a class without an own __init__ -/
abbrev bareD : D := .ty "bare"
def isBare : D → Bool
  | .ty _ => true
  | _ => false
/-- an exception of the class cn: with a value, or of a class without an own __init__ -/
def XcP (mg : Glob) (N : Prot) (c : List Addr) (H : Hp) (cls : Value) (dd : Option Addr) (cn : Str) (d : D) : Prop :=
  XcL mg N c H cls dd cn d ∨ ∃ C, cls = .ref C ∧ dd = none ∧ mg.mg cn = some (.ref C) ∧ d = bareD
theorem XcP.at {mg : Glob} {N : Prot} {c : List Addr} {H : Hp} {cls : Value} {dd : Option Addr} {cn : Str} {d : D} (z : XcP mg N c H cls dd cn d) : ∃ C, cls = .ref C ∧ mg.mg cn = some (.ref C) := by
  rcases z with ⟨C, da, v, e1, e2, e3, e4, e5, e6⟩ | ⟨C, e1, e2, e3, e4⟩
  · exact ⟨C, e1, e3⟩
  · exact ⟨C, e1, e3⟩
inductive OutX where
  | o (o : Out) | ex (cn : Str) (d : D) (env : Env)
inductive RX where
  | ok (d : D) | ex (cn : Str) (d : D)
abbrev SX := Env → Sto → Option (OutX × Sto)
abbrev EX := Env → Sto → Option (RX × Sto)
abbrev FX := List D → Sto → Option (RX × Sto)
def PostX (mg : Glob) (W : WX) (E : En) (N : Prot) (c : List Addr) (H : Hp) (De : Ends) (o : OutX) (st' : Sto) : Prop := match o with
  | .o o => PostS mg E N c H De o st'
  | .ex cn d env' => ∀ N' c' σ' H' cls dd, Sx N c H N' c' H' → Rel mg E N' c' env' st' σ' H' → XcP mg N' c' H' cls dd cn d → W cls dd σ' H'
def PostE (mg : Glob) (W : WX) (σ : L2.St) (N : Prot) (c : List Addr) (H : Hp) (Q : VK) (r : RX) (st' : Sto) : Prop := match r with
  | .ok d => ∀ v N' c' H', Ex N c H N' c' H' → Wd mg N' c' H' st' → Rep mg N' c' H' v d → Q v H'
  | .ex cn d => ∀ N' c' H' cls dd, Ex N c H N' c' H' → Wd mg N' c' H' st' → XcP mg N' c' H' cls dd cn d → W cls dd σ H'
section
variable {mg : Glob} {W : WX} {E : En} {N N' : Prot} {c c' : List Addr} {H H' : Hp} {De : Ends} {o : OutX} {st st' : Sto} {env env' : Env} {σ : L2.St}
theorem PostX.from (x : Sx N c H N' c' H') (p : PostX mg W E N c H De o st') : PostX mg W E N' c' H' De o st' := by
  cases o with
  | o o => exact PostS.from x p
  | ex cn d e => exact fun N2 c2 σ2 H2 cls dd x2 R2 z => p N2 c2 σ2 H2 cls dd (x.trans x2) R2 z
end
def xL (f : SS) : SX := fun env st => (f env st).map fun p => (.o p.1, p.2)
def xNil : SX := fun env st => some (.o (.nx env), st)
def xSeq (f g : SX) : SX := fun env st => match f env st with
  | some (.o (.nx e), s1) => g e s1
  | r => r
def xIf (t : SB) (f g : SX) : SX := fun env st => match t env st with
  | some (true, s1) => f env s1
  | some (false, s1) => g env s1
  | none => none
def xRaise (cn : Str) (f : SE) : SX := fun env st => match f env st with
  | some (d, s1) => some (.ex cn d env, s1)
  | none => none
def xDrop (f : EX) : SX := fun env st => match f env st with
  | some (.ok _, s1) => some (.o (.nx env), s1)
  | some (.ex cn d, s1) => some (.ex cn d env, s1)
  | none => none
def xSet (i : Nat) (f : EX) : SX := fun env st => match f env st with
  | some (.ok d, s1) => some (.o (.nx (env.set i (.val d))), s1)
  | some (.ex cn d, s1) => some (.ex cn d env, s1)
  | none => none
def xRet (f : EX) : SX := fun env st => match f env st with
  | some (.ok d, s1) => some (.o (.rt d), s1)
  | some (.ex cn d, s1) => some (.ex cn d env, s1)
  | none => none
section
variable {mg : Glob} {X : Cx} {W : WX} {s : Stmt} {rest : List Stmt} {e : Expr} {pos : Pos} {f g : SX} {fe : EX} {fs : SS} {t : SB}
end
end LW

/-! LwEd: raise; calls of defs that may raise; such defs. -/
namespace LW
open PySem L2 PyProof.Rows
section
variable {mg : Glob} {X : Cx} {W : WX} {s : Stmt} {rest : List Stmt} {e : Expr} {es : List Expr} {pos : Pos} {f g : SX} {fe : EX} {fv : SE} {fs : SS} {t : SB}
end
/-! ### defs that may raise -/
def fnX (n m : Nat) (body : SX) : FX := fun ds st => if ds.length = n then (match body (env0 m ds) st with
  | some (.o (.rt d), s1) => some (.ok d, s1)
  | some (.o (.nx _), s1) => some (.ok .non, s1)
  | some (.ex cn d _, s1) => some (.ex cn d, s1)
  | _ => none) else none
def eCallX (g : FX) (dd : List D) (f : SA) : EX := fun env st => match f env st with
  | none => none
  | some (ds, s1) => g (ds ++ dd) s1
section
variable {P : Program} {w : World} {K : PySem.W.Frag} {mg : Str → Option Value} {base : Heap}
theorem XcP.fin {m : Glob} {E : En} {N : Prot} {c : List Addr} {env : Env} {st : Sto} {σ : L2.St} {H : Hp} {cls : Value} {dd : Option Addr} {cn : Str} {d : D} (R : Rel m E N c env st σ H) (z : XcP m N c H cls dd cn d) : XcP m (fun a => E.N0 a ∨ a ∈ c) c H cls dd cn d := by
  have less : ∀ a, (E.N0 a ∨ a ∈ c) → N a := fun a z => z.elim (R.n0 a) (R.wd.cn a)
  rcases z with ⟨C, da, v, e1, e2, e3, e4, e5, e6⟩ | z
  · exact .inl ⟨C, da, v, e1, e2, e3, e4, fun q => e5 (less _ q), e6.tr (Tr.less less)⟩
  · exact .inr z
end
section
variable {mg : Glob} {X : Cx} {W : WX} {k : Nat} {f C : Addr} {fd : FuncData} {ps : List Str} {g : FX} {n : Nat} {dvs : List V} {ds : List Value} {dd : List D} {x m : Str} {p pos apos : Pos} {e o : Expr} {es : List Expr} {fs : SA}
end
end LW

/-! LwEe: try: body / except C1 as e: .. / except C2: .. -/
namespace LW
open PySem L2 PyProof.Rows
/-- a clause: its class, the slot of its name, its suite by the error's value -/
abbrev Cl := Str × Option Nat × (D → SS)
def unO (i : Nat) : Out → Out
  | .nx e => .nx (e.set i .un)
  | .bk e => .bk (e.set i .un)
  | .ct e => .ct (e.set i .un)
  | .rt d => .rt d
def hRun (sub : Str → Str → Option Bool) (cn : Str) (d : D) : List Cl → SS
  | [] => fun _ _ => none
  | (cn', none, fh) :: r => fun env st => match sub cn cn' with
    | some true => fh .non env st
    | some false => hRun sub cn d r env st
    | none => none
  | (cn', some i, fh) :: r => fun env st => match sub cn cn' with
    | some true => if cn = cn' ∧ i < env.length ∧ isBare d = false then (match fh d (env.set i .un) st with
      | some (o, s1) => some (unO i o, s1)
      | none => none) else none
    | some false => hRun sub cn d r env st
    | none => none
def sTry (sub : Str → Str → Option Bool) (fb : SX) (l : List Cl) : SS := fun env st => match fb env st with
  | some (.o o, s1) => some (o, s1)
  | some (.ex cn d e1, s1) => hRun sub cn d l e1 s1
  | none => none
section
variable {mg : Glob} {X : Cx} {i : Nat} {cn : Str} {a : Addr} {oe : Obj} {cls : Value} {dd : Option Addr} {pn : List (Addr × Obj)} {e : Expr} {pos : Pos} {f : D → SE}
end
/-! ### the clauses -/
section
variable {mg : Glob} {X : Cx} {sub : Str → Str → Option Bool}
end
end LW

/-! LwEf: short words: defs that may raise, exception classes with their facts. -/
namespace LW
open PySem L2 PyProof.Rows
section
variable {P : Program} {K : PySem.W.Frag} {mg : Str → Option Value} {h : Heap} {cn : Str} {C L fI N N' cc cda oT : Addr} {nm q nm' q' qual file : Str} {bs bm sub bs' sub' : List Value} {sn sn' : List Str} {hd' ab' : Bool} {col' : Option Bool} {dd' : Option Addr} {j0 j1 j2 j3 j5 : Option Value} {nw' : String} {ab : Bool} {col : Option Bool} {dd od an cdd cld odT : Option Addr} {k0 k1 k2 k3 k5 : Option Value}
  {oc kV doc pm ct ccl cl ocT : Value} {osl ccs csl oslT : Array (Option Value)} {vs : Array Value} {tf : Tok} {nt : Nat} {p1 p2 p3 a1 a2 a3 a4 b1 b2 b3 b4 : Pos}
end
section
variable (P : Program) (w : World) (K : PySem.W.Frag) (mg : Str → Option Value) (base : Heap)
end
section
variable {P : Program} {w : World} {K : PySem.W.Frag} {mg : Str → Option Value} {base : Heap} {k : Nat} {x : Str} {st : Stmt} {nm ps : List Str} {body : SX}
end
section
variable {mg : Glob} {X : Cx} {W : WX} {k n : Nat} {ps : List Str} {g : FX} {dvs : List V} {dd : List D} {x : Str} {p pos : Pos} {e : Expr} {es : List Expr} {fs : SA}
end
/-! ### which class lies below which -/
section
variable {K : PySem.W.Frag} {mg : Str → Option Value} {h : Heap} {cn cn' : Str} {b : Bool} {C C' : Addr} {tbl : List (Str × Str × Bool)}
end
section
variable {mg : Glob} {X : Cx} {cn n : Str} {i : Nat} {C : Addr} {fh : D → SS} {b₀ : Stmt} {suite : List Stmt} {np pos' : Pos} {hds : List ExceptHandler} {l : List (Addr × Cl)}
end
end LW

/-! LwEg: a thing of any kind in a list of tuples of ints; len(set(tuples of ints)). -/
namespace PySem.SeqAt
open PySem
section
theorem tuple_eq_declines_dictL (l b : Addr) (items : Array Value) (n : Nat) (dd dd2 : Option Addr) (sl sl2 : Array (Option Value)) (dt : Data) :
    Meets (Builtin.«tuple.__eq__» ⟨[.ref l, .ref b], []⟩) (fun _ R s => s.heap.get? l = some { cls := .type "tuple", dict := dd, data := .seq items n, slots := sl } ∧ s.heap.get? b = some { cls := .type "dict", dict := dd2, data := dt, slots := sl2 } ∧ R (.ok (.ret .notImplemented)) s) :=
  .of_wp fun prog w A R s h => by obtain ⟨hp, g, d, tk, os⟩ := s; obtain ⟨hl, hb, h⟩ := h; have f1 := F.sub_dict_tuple; wp_walk using wpAny_loadPart' hl, wpAny_loadPart' hb; exact ⟨_, rfl, h⟩
theorem dict_eq_declines_tupleL (b l : Addr) (items : Array Value) (n : Nat) (dd dd2 : Option Addr) (sl sl2 : Array (Option Value)) (es : Array DictEntry) (ep : Nat) :
    Meets (Builtin.«dict.__eq__» ⟨[.ref b, .ref l], []⟩) (fun _ R s => s.heap.get? b = some { cls := .type "dict", dict := dd2, data := .dict es ep, slots := sl2 } ∧ s.heap.get? l = some { cls := .type "tuple", dict := dd, data := .seq items n, slots := sl } ∧ R (.ok (.ret .notImplemented)) s) :=
  .of_wp fun prog w A R s h => by obtain ⟨hp, g, d, tk, os⟩ := s; obtain ⟨hb, hl, h⟩ := h; have f1 := F.sub_tuple_dict; wp_walk using wpAny_loadPart' hl, wpAny_loadPart' hb; exact ⟨_, rfl, h⟩
theorem int_eq_declines_dictL (b : Int) (u : Tok) (l : Addr) (c : Value) (dt : Data) (dd : Option Addr) (sl : Array (Option Value)) (es : Array DictEntry) (ep : Nat) :
    Meets (Builtin.«int.__eq__» ⟨[.int b u, .ref l], []⟩) (fun _ R s => s.heap.get? l = some { cls := c, dict := dd, data := .dict es ep, slots := sl } ∧ R (.ok (.ret .notImplemented)) s) :=
  .of_wp fun prog w A R s h => by obtain ⟨hp, g, d, tk, os⟩ := s; obtain ⟨hl, h⟩ := h; wp_walk using wpAny_loadPart' hl, wpAny_load hl; exact ⟨_, rfl, h⟩
theorem dict_eq_declines_intL (l : Addr) (dd : Option Addr) (sl : Array (Option Value)) (es : Array DictEntry) (ep : Nat) (b : Int) (u : Tok) :
    Meets (Builtin.«dict.__eq__» ⟨[.ref l, .int b u], []⟩) (fun _ R s => s.heap.get? l = some { cls := .type "dict", dict := dd, data := .dict es ep, slots := sl } ∧ R (.ok (.ret .notImplemented)) s) :=
  .of_wp fun prog w A R s h => by obtain ⟨hp, g, d, tk, os⟩ := s; obtain ⟨hl, h⟩ := h; have f1 := F.sub_int_dict; wp_walk using wpAny_loadPart' hl, wpAny_load hl; exact ⟨_, rfl, h⟩
end
end PySem.SeqAt
namespace PySem.SeqAt
open PySem
section
variable {A : Around} {s : Shared}
def IsD (h : Heap) (b : Addr) : Prop := ∃ o es ep, h.get? b = some o ∧ o.cls = .type "dict" ∧ o.data = .dict es ep
theorem RcAt.tuple_dictL {l b : Addr} {items : Array Value} (hl : s.heap.IsTuple l items) (hb : IsD s.heap b) (hu : A.units < cLine) : RcAt A s (.ref l) (.ref b) false := fun prog w E Q h => by
  obtain ⟨⟨cls, dd, data, sl⟩, ho, hc, n, hd⟩ := id hl
  obtain ⟨⟨cls2, dd2, data2, sl2⟩, es, ep, ho2, hc2, hd2⟩ := id hb
  simp only at hc hd hc2 hd2
  subst hc hd hc2 hd2
  have hne : l ≠ b := fun z => by
    subst z
    exact absurd (congrArg Obj.cls (Option.some.inj (ho.symm.trans ho2))) (by simp)
  exact (rc_eq_decline_or (k := false) ⟨_, ho, rfl⟩ ⟨_, ho2, rfl⟩ (by decide) F.sub_dict_tuple F.slot_tuple_eq F.slot_dict_eq
    (fun _ hq => call_meets F.slot_tuple_eq ⟨_, ho, rfl⟩ F.entry_tuple_eq (F.args_tuple_eq_2 _ _) (tuple_eq_declines_dictL l b items n dd dd2 sl sl2 _) ⟨ho, ho2, hq⟩)
    (fun _ hq => call_meets F.slot_dict_eq ⟨_, ho2, rfl⟩ F.entry_dict_eq (F.args_dict_eq_2 _ _) (dict_eq_declines_tupleL b l items n dd dd2 sl sl2 es ep) ⟨ho2, ho, hq⟩)
    (fun _ hq => wpAny_isSame_ref_other' hne ho ho2 (by simp) hq) (.inr hu) h)
theorem RcAt.int_dictL {l : Addr} (b : Int) (u : Tok) (hl : IsD s.heap l) (hu : A.units < cLine) : RcAt A s (.int b u) (.ref l) false := fun prog w E Q h => by
  obtain ⟨⟨cls, dd, data, sl⟩, es, ep, ho, hc, hd⟩ := id hl
  simp only at hc hd
  subst hc hd
  exact rc_eq_decline_or (k := false) (typeIs_int s b u) ⟨_, ho, rfl⟩ (by decide) F.sub_dict_int F.slot_int_eq F.slot_dict_eq
    (fun _ hq => call_meets F.slot_int_eq (typeIs_int s b u) F.entry_int_eq (F.args_int_eq_2 _ _) (int_eq_declines_dictL b u l (.type "dict") (.dict es ep) dd sl es ep) ⟨ho, hq⟩)
    (fun _ hq => call_meets F.slot_dict_eq ⟨_, ho, rfl⟩ F.entry_dict_eq (F.args_dict_eq_2 _ _) (dict_eq_declines_intL l dd sl es ep b u) ⟨ho, hq⟩)
    (fun _ hq => wpAny_of_eq (rfl : isSame (.int b u) (.ref l) = pure false) hq) (.inr hu) h
theorem EqAt.int_dictL {l : Addr} (b : Int) (u : Tok) (hl : IsD s.heap l) (hu : A.units < cLine) : EqAt A s (.int b u) (.ref l) false := fun prog w E Q h => by
  unfold eqBool
  refine wpAny_holding ?_
  refine wpAny_ite_split (fun hab => absurd (eq_of_beq hab) nofun) (fun _ => ?_)
  exact wpAny_bind (RcAt.int_dictL b u hl hu prog w E _ (wpAny_truthy_bool h))
theorem EqAt.tuple_dictL {l b : Addr} {items : Array Value} (hl : s.heap.IsTuple l items) (hb : IsD s.heap b) (hu : A.units < cLine) : EqAt A s (.ref l) (.ref b) false := by
  refine .of_refs (fun z => ?_) (.tuple_dictL hl hb hu)
  subst z
  obtain ⟨o, ho, hc, _⟩ := hl
  obtain ⟨o2, es, ep, ho2, hc2, _⟩ := hb
  rw [ho] at ho2
  cases ho2
  rw [hc] at hc2
  exact absurd hc2 (by simp)
end
end PySem.SeqAt
namespace L2
open PySem PySem.Spec PyProof.Rows
/-- what an int is to a thing -/
def E0i (K : PySem.W.Frag) (H : Hp) (n : Int) (x : V) (b : Bool) : Prop :=
  (∃ m, x = .int m ∧ b = (n == m)) ∨ (∃ c : Bool, x = .bl c ∧ b = (n == (if c then 1 else 0))) ∨ (b = false ∧ (x = .non ∨ (∃ z, x = .str z) ∨ ∃ a, x = .ref a ∧ ((∃ ys, SqT K H a ys) ∨ (∃ ys, SqL K H a ys) ∨ ∃ kvs, Rd H a (.dK kvs))))
/-- what a tuple of ints is to a thing -/
def ETi (K : PySem.W.Frag) (H : Hp) (ns : List Int) (x : V) (b : Bool) : Prop :=
  (∃ a ys e, x = .ref a ∧ SqT K H a ys ∧ (∀ j n y, ns[j]? = some n → ys[j]? = some y → E0i K H n y (e j)) ∧ b = ((List.range (min ns.length ys.length)).all e && ns.length == ys.length)) ∨
  (b = false ∧ (x = .non ∨ (∃ c, x = .bl c) ∨ (∃ m, x = .int m) ∨ (∃ z, x = .str z) ∨ ∃ a, x = .ref a ∧ ((∃ ys, SqL K H a ys) ∨ ∃ kvs, Rd H a (.dK kvs))))
theorem pgetR {α β : Type} {F : α → β → Prop} : ∀ {l₁ : List α} {l₂ : List β} {j : Nat} {x : β}, Paired F l₁ l₂ → l₂[j]? = some x → ∃ y, l₁[j]? = some y ∧ F y x
  | _, _, _, _, .nil, e => by simp at e
  | _, _, 0, x, .cons h _, e => by simp at e; subst e; exact ⟨_, rfl, h⟩
  | _, _, j + 1, x, .cons _ t, e => by
    obtain ⟨y, h1, h2⟩ := pgetR (j := j) (x := x) t (by simpa using e)
    exact ⟨y, by simpa using h1, h2⟩
section
variable {X : Cx} {pins : List (Addr × Obj)} {σ : St} {H : Hp} {s : Shared}
theorem isD_of (I : Inv X pins σ H s) {a : Addr} {kvs : List (Key × V)} (h : Rd H a (.dK kvs)) : SeqAt.IsD s.heap a := by
  obtain ⟨_, _, vs, _, o, es, ep, ho, hx, hd, _⟩ := dk_rd I.hok h
  exact ⟨o, es, ep, ho, hx.1, hd⟩
theorem plainL_is {h : Heap} {a : Addr} {its : Array Value} (p : PlainL h a its) : h.IsList a its := by
  obtain ⟨o, n, h1, h2, _, h4⟩ := p
  exact ⟨o, h1, h2, n, h4⟩
theorem e0_run (I : Inv X pins σ H s) {A : Around} (hu : A.units < cLine) {n : Int} {t : Tok} {x : V} {u : Value} {b : Bool} (h : E0i X.K H n x b) (r : RelV x u) : SeqAt.EqAt A s (.int n t) u b := by
  rcases h with ⟨m, rfl, rfl⟩ | ⟨c, rfl, rfl⟩ | ⟨rfl, rfl | ⟨z, rfl⟩ | ⟨a, rfl, ⟨ys, h⟩ | ⟨ys, h⟩ | ⟨kvs, h⟩⟩⟩
  · obtain ⟨t', rfl⟩ := r
    exact .int_int n t m t'
  · obtain rfl : u = .bool c := r
    exact .int_bool n t c
  · obtain rfl : u = .none := r
    exact .int_none n t
  · obtain ⟨t', rfl⟩ := r
    exact .int_str n t z t'
  · obtain rfl : u = .ref a := r
    obtain ⟨its, _, hp, _⟩ := I.tuple h
    exact .int_tuple n t hp hu
  · obtain rfl : u = .ref a := r
    obtain ⟨its, _, hp, _⟩ := I.list h
    exact .int_list n t (plainL_is hp) hu
  · obtain rfl : u = .ref a := r
    exact .int_dictL n t (isD_of I h) hu
theorem et_run (I : Inv X pins σ H s) {A : Around} (hu : A.units + 1 < cLine) {ns : List Int} {l : Addr} (hl : SqT X.K H l (ns.map V.int)) {x : V} {u : Value} {b : Bool} (h : ETi X.K H ns x b) (r : RelV x u) : SeqAt.EqAt A s (.ref l) u b := by
  obtain ⟨its, rv, hp, _⟩ := I.tuple hl
  rcases h with ⟨a, ys, e, rfl, hy, he, rfl⟩ | ⟨rfl, rfl | ⟨c, rfl⟩ | ⟨m, rfl⟩ | ⟨z, rfl⟩ | ⟨a, rfl, ⟨ys, h⟩ | ⟨kvs, h⟩⟩⟩
  · obtain rfl : u = .ref a := r
    obtain ⟨its2, rv2, hp2, _⟩ := I.tuple hy
    have l1 : its.length = ns.length := by rw [← rv.length, List.length_map]
    have l2 : its2.length = ys.length := rv2.length.symm
    by_cases q : l = a
    · subst q
      have hk := I.tuple_inj hl hy
      subst hk
      have : ((List.range (min ns.length (ns.map V.int).length)).all e && ns.length == (ns.map V.int).length) = true := by
        rw [List.length_map, Nat.min_self]
        simp only [beq_self_eq_true, Bool.and_true]
        rw [List.all_eq_true]
        intro j hj
        have hj' : j < ns.length := List.mem_range.mp hj
        have z := he j ns[j] (.int ns[j]) (List.getElem?_eq_getElem hj') (by rw [List.getElem?_map, List.getElem?_eq_getElem hj']; rfl)
        rcases z with ⟨m, e1, e2⟩ | ⟨c, e1, _⟩ | ⟨_, e1 | ⟨z, e1⟩ | ⟨a', e1, _⟩⟩
        · cases e1
          rw [e2]
          simp
        · cases e1
        · cases e1
        · cases e1
        · cases e1
      rw [this]
      exact .same _
    · have rc := SeqAt.RcAt.tuples (A := A) (e := e) hp hp2 (by omega) (fun j h1 h2 => by
        have h1' : j < its.length := by simpa using h1
        have h2' : j < its2.length := by simpa using h2
        obtain ⟨v, ev, rvj⟩ := pgetR rv (List.getElem?_eq_getElem h1')
        obtain ⟨y, ey, ryj⟩ := pgetR rv2 (List.getElem?_eq_getElem h2')
        rw [List.getElem?_map] at ev
        cases hn : ns[j]? with
        | none => rw [hn] at ev; cases ev
        | some n =>
          rw [hn] at ev
          cases ev
          obtain ⟨t, et⟩ := rvj
          have q1 := e0_run I (A := A.in1) (by rw [show A.in1.units = A.units + 1 from rfl]; omega) (t := t) (he j n y hn ey) ryj
          show SeqAt.EqAt A.in1 s its.toArray[j] its2.toArray[j] (e j)
          rw [List.getElem_toArray, List.getElem_toArray, et]
          exact q1)
      rw [show its.toArray.size = ns.length by rw [List.size_toArray, l1], show its2.toArray.size = ys.length by rw [List.size_toArray, l2]] at rc
      exact .of_refs q rc
  · obtain rfl : u = .none := r
    exact .tuple_none hp (by omega)
  · obtain rfl : u = .bool c := r
    exact .tuple_bool c hp (by omega)
  · obtain ⟨t', rfl⟩ := r
    exact .tuple_int m t' hp (by omega)
  · obtain ⟨t', rfl⟩ := r
    exact .tuple_str z t' hp (by omega)
  · obtain rfl : u = .ref a := r
    obtain ⟨its2, _, hp2, _⟩ := I.list h
    exact .tuple_list hp (plainL_is hp2) (by omega)
  · obtain rfl : u = .ref a := r
    exact .tuple_dictL hp (isD_of I h) (by omega)
/-- a thing in a list of tuples of ints -/
def rInI (K : PySem.W.Frag) (neg : Bool) : R2 := fun x y H Q => ∃ (l : Addr) (ps : List (Addr × List Int)) (bs : List Int → Bool), y = .ref l ∧ SqL K H l (ps.map fun p => V.ref p.1) ∧ (∀ p ∈ ps, SqT K H p.1 (p.2.map V.int) ∧ ETi K H p.2 x (bs p.2)) ∧ Q (.bl (if neg then !(ps.any fun p => bs p.2) else ps.any fun p => bs p.2)) H
theorem any_refs {e : Value → Bool} {f : Addr × List Int → Bool} : ∀ {ps : List (Addr × List Int)} {its : List Value}, Vals (ps.map fun p => V.ref p.1) its → (∀ p ∈ ps, e (.ref p.1) = f p) → its.any e = ps.any f
  | [], _, .nil, _ => rfl
  | p :: ps, _, .cons h t, hf => by
    obtain rfl := (show _ = Value.ref p.1 from h)
    rw [List.any_cons, List.any_cons, hf p (List.mem_cons_self ..), any_refs t fun q hq => hf q (List.mem_cons_of_mem _ hq)]
open Classical in
theorem op_inI (hu : X.A.units + 3 < cLine) : OpR X (compareOp .In) (rInI X.K false) := by
  intro pins s σ H x y v u Q I rx ry h
  obtain ⟨l, ps, bs, rfl, hl, hp, q⟩ := h
  obtain rfl : u = .ref l := ry
  obtain ⟨its, rv, pl, _⟩ := I.list hl
  have key : ∀ p ∈ ps, ∀ p' ∈ ps, p.1 = p'.1 → bs p.2 = bs p'.2 := fun p h1 p' h2 e => by
    have a1 := (hp p h1).1
    have a2 := (hp p' h2).1
    rw [← e] at a2
    have := I.tuple_inj a1 a2
    have e2 : p.2 = p'.2 := by
      have := congrArg (List.map fun v : V => match v with | .int i => i | _ => 0) this
      simpa [List.map_map, Function.comp_def] using this
    rw [e2]
  let ev : Value → Bool := fun z => decide (∃ p ∈ ps, z = .ref p.1 ∧ bs p.2 = true)
  have hev : ∀ p ∈ ps, ev (.ref p.1) = bs p.2 := fun p h1 => by
    by_cases hb : bs p.2 = true
    · rw [hb]; exact decide_eq_true ⟨p, h1, rfl, hb⟩
    · rw [show bs p.2 = false by simpa using hb]
      refine decide_eq_false fun ⟨p', h2, e, hb'⟩ => ?_
      have e' : p.1 = p'.1 := by injection e
      rw [← key p h1 p' h2 e'] at hb'
      exact hb hb'
  refine SeqAt.in_listAt ev (plainL_is pl) (fun z hz => ?_) ?_
  · have hz' : z ∈ its := by simpa using hz
    obtain ⟨j, hj⟩ := List.getElem?_of_mem hz'
    obtain ⟨w, ew, rw_⟩ := pgetR rv hj
    rw [List.getElem?_map] at ew
    cases hn : ps[j]? with
    | none => rw [hn] at ew; cases ew
    | some p =>
      rw [hn] at ew
      cases ew
      obtain rfl := (show z = Value.ref p.1 from rw_)
      have hm := List.mem_of_getElem? hn
      rw [hev p hm]
      exact et_run I (A := X.A.in1) (by rw [show X.A.in1.units = X.A.units + 1 from rfl]; omega) (hp p hm).1 (hp p hm).2 rx
  · rw [show its.toArray.any ev = its.any ev by simp, any_refs rv hev]
    exact ⟨.bl _, H, I, rfl, q⟩
end
end L2
namespace LW
open PySem L2 PyProof.Rows
def natsOf : List D → Option (List Int)
  | [] => some []
  | .int i :: r => (natsOf r).map (i :: ·)
  | _ :: _ => none
theorem natsOf_eq : ∀ {xs : List D} {ns : List Int}, natsOf xs = some ns → xs = ns.map D.int
  | [], _, e => by cases e; rfl
  | .int i :: r, _, e => by
    unfold natsOf at e
    cases h : natsOf r with
    | none => rw [h] at e; cases e
    | some ns =>
      rw [h] at e
      cases e
      rw [natsOf_eq h]
      rfl
  | .non :: _, _, e | .bl _ :: _, _, e | .str _ :: _, _, e | .ty _ :: _, _, e | .tup _ :: _, _, e | .lst _ :: _, _, e | .fro _ :: _, _, e | .cell _ :: _, _, e | .obj _ _ _ :: _, _, e | .cls _ :: _, _, e | .dic _ _ :: _, _, e | .dit _ _ :: _, _, e => by cases e
/-- a list of tuples of ints -/
def tupsOf : List D → Option (List (List Int))
  | [] => some []
  | .tup xs :: r => match natsOf xs, tupsOf r with
    | some ns, some l => some (ns :: l)
    | _, _ => none
  | _ :: _ => none
/-- what an int is to a thing -/
def e0D (n : Int) : D → Option Bool
  | .int m => some (n == m)
  | .bl c => some (n == (if c then 1 else 0))
  | .non => some false
  | .str _ => some false
  | .tup _ => some false
  | .lst _ => some false
  | .fro _ => some false
  | .dic _ _ => some false
  | _ => none
/-- what a tuple of ints is to a thing -/
def etD (ns : List Int) : D → Option Bool
  | .tup ys => if ys.all (fun y => (e0D 0 y).isSome) = true then some ((List.range (min ns.length ys.length)).all (fun j => match ns[j]?, ys[j]? with
      | some n, some y => (e0D n y).getD false
      | _, _ => false) && ns.length == ys.length) else none
  | .int _ => some false
  | .bl _ => some false
  | .non => some false
  | .str _ => some false
  | .lst _ => some false
  | .fro _ => some false
  | .dic _ _ => some false
  | _ => none
theorem etD_tup (ns : List Int) (ys : List D) : etD ns (.tup ys) = if ys.all (fun y => (e0D 0 y).isSome) = true then some ((List.range (min ns.length ys.length)).all (fun j => match ns[j]?, ys[j]? with
      | some n, some y => (e0D n y).getD false
      | _, _ => false) && ns.length == ys.length) else none := rfl
section
variable {mg : Glob} {N : Prot} {c : List Addr} {H : Hp} {st : Sto}
theorem rep_seq {v : V} {xs : List D} (h : Rep mg N c H v (.fro xs)) : ∃ a ys, v = .ref a ∧ SqL mg.K H a ys := by
  cases h with
  | fro h _ _ => exact ⟨_, _, rfl, .inl (.inr ⟨_, h⟩)⟩
  | kro h => exact ⟨_, _, rfl, h H⟩
theorem rep_dic {v : V} {ks : List Key} {xs : List D} (h : Rep mg N c H v (.dic ks xs)) : ∃ a kvs, v = .ref a ∧ Rd H a (.dK kvs) := by
  cases h with
  | dic h _ _ _ => exact ⟨_, _, rfl, .inl h⟩
  | dfz h _ _ _ => exact ⟨_, _, rfl, .inr ⟨_, h⟩⟩
theorem e0_rel {v : V} {d : D} {n : Int} {b : Bool} (e : e0D n d = some b) (h : Rep mg N c H v d) : E0i mg.K H n v b := by
  cases d with
  | int m =>
    cases e
    cases h
    exact .inl ⟨m, rfl, rfl⟩
  | bl q =>
    cases e
    cases h
    exact .inr (.inl ⟨q, rfl, rfl⟩)
  | non =>
    cases e
    cases h
    exact .inr (.inr ⟨rfl, .inl rfl⟩)
  | str x =>
    cases e
    cases h
    exact .inr (.inr ⟨rfl, .inr (.inl ⟨x, rfl⟩)⟩)
  | tup xs =>
    cases e
    cases h with
    | tup h _ => exact .inr (.inr ⟨rfl, .inr (.inr ⟨_, rfl, .inl ⟨_, SqT.of h⟩⟩)⟩)
  | lst xs =>
    cases e
    cases h with
    | lst h _ _ => exact .inr (.inr ⟨rfl, .inr (.inr ⟨_, rfl, .inr (.inl ⟨_, SqL.of h⟩)⟩)⟩)
  | fro xs =>
    cases e
    obtain ⟨a, ys, rfl, hs⟩ := rep_seq h
    exact .inr (.inr ⟨rfl, .inr (.inr ⟨_, rfl, .inr (.inl ⟨_, hs⟩)⟩)⟩)
  | dic ks xs =>
    cases e
    obtain ⟨a, kvs, rfl, hs⟩ := rep_dic h
    exact .inr (.inr ⟨rfl, .inr (.inr ⟨_, rfl, .inr (.inr ⟨_, hs⟩)⟩)⟩)
  | _ => cases e
theorem e0_some {n m : Int} {d : D} (h : (e0D n d).isSome = true) : (e0D m d).isSome = true := by
  cases d <;> first | rfl | exact h
theorem et_rel {v : V} {d : D} {ns : List Int} {b : Bool} (e : etD ns d = some b) (h : RepT mg N c H v d) : ETi mg.K H ns v b := by
  rcases h with h | ⟨a, vs, xs, rfl, rfl, ha, _, r⟩
  · cases d with
    | int m =>
      cases e
      cases h
      exact .inr ⟨rfl, .inr (.inr (.inl ⟨m, rfl⟩))⟩
    | bl q =>
      cases e
      cases h
      exact .inr ⟨rfl, .inr (.inl ⟨q, rfl⟩)⟩
    | non =>
      cases e
      cases h
      exact .inr ⟨rfl, .inl rfl⟩
    | str x =>
      cases e
      cases h
      exact .inr ⟨rfl, .inr (.inr (.inr (.inl ⟨x, rfl⟩)))⟩
    | tup xs =>
      rw [etD_tup] at e
      split at e
      · rename_i hall
        cases e
        cases h with
        | tup h r =>
          refine .inl ⟨_, _, fun j => match ns[j]?, xs[j]? with
            | some n, some y => (e0D n y).getD false
            | _, _ => false, rfl, SqT.of h, fun j n y hn hy => ?_, by rw [r.length]⟩
          obtain ⟨d, hd, rd⟩ := r.getV hy
          have q1 : (e0D 0 d).isSome = true := List.all_eq_true.mp hall d (List.mem_of_getElem? hd)
          have q2 := e0_some (m := n) q1
          cases hv : e0D n d with
          | none => rw [hv] at q2; cases q2
          | some b =>
            have : (match ns[j]?, xs[j]? with
              | some n, some y => (e0D n y).getD false
              | _, _ => false) = b := by rw [hn, hd]; simp only [hv]; rfl
            show E0i mg.K H n y (match ns[j]?, xs[j]? with
              | some n, some y => (e0D n y).getD false
              | _, _ => false)
            rw [this]
            exact e0_rel hv rd
      · cases e
    | lst xs =>
      cases e
      cases h with
      | lst h _ _ => exact .inr ⟨rfl, .inr (.inr (.inr (.inr ⟨_, rfl, .inl ⟨_, SqL.of h⟩⟩)))⟩
    | fro xs =>
      cases e
      obtain ⟨a, ys, rfl, hs⟩ := rep_seq h
      exact .inr ⟨rfl, .inr (.inr (.inr (.inr ⟨_, rfl, .inl ⟨_, hs⟩⟩)))⟩
    | dic ks xs =>
      cases e
      obtain ⟨a, kvs, rfl, hs⟩ := rep_dic h
      exact .inr ⟨rfl, .inr (.inr (.inr (.inr ⟨_, rfl, .inr ⟨_, hs⟩⟩)))⟩
    | _ => cases e
  · cases e
    exact .inr ⟨rfl, .inr (.inr (.inr (.inr ⟨_, rfl, .inl ⟨_, SqL.of ha⟩⟩)))⟩
end
end LW
namespace L2
open PySem PySem.Spec PyProof.Rows
end L2
namespace LW
open PySem L2 PyProof.Rows
section
variable {mg : Glob} {N : Prot} {c : List Addr} {H : Hp} {st : Sto}
theorem tups_rel : ∀ {xs : List D} {vs : List V} {l : List (List Int)}, RepL mg N c H vs xs → tupsOf xs = some l → ∃ ps : List (Addr × List Int), vs = ps.map (fun p => V.ref p.1) ∧ ps.map (·.2) = l ∧ ∀ p ∈ ps, SqT mg.K H p.1 (p.2.map V.int)
  | [], _, _, .nil, e => by
    cases e
    exact ⟨[], rfl, rfl, fun p h => by cases h⟩
  | x :: xs, _, _, .cons h r, e => by
    unfold tupsOf at e
    split at e
    · rename_i hx
      cases hx
    · rename_i zs r' hx
      cases hx
      split at e
      · rename_i ns l' h1 h2
        cases e
        obtain ⟨ps, rfl, hm, hp⟩ := tups_rel r h2
        cases h with
        | @tup a ws _ ha ra =>
          have e1 := natsOf_eq h1
          subst e1
          have e2 := ra.of_ints
          subst e2
          refine ⟨(a, ns) :: ps, rfl, by rw [List.map_cons, hm], fun p hq => ?_⟩
          rcases List.mem_cons.mp hq with rfl | hq
          · exact SqT.of ha
          · exact hp p hq
      · cases e
    · cases e
/-- x in xs, xs a list of tuples of ints -/
def oInP (neg : Bool) : D → D → Sto → Option D := fun x y st => match lstR st y with
  | some ys => (match tupsOf ys with
    | some l => if l.all (fun ns => (etD ns x).isSome) = true then some (.bl (if neg then !(l.any fun ns => (etD ns x).getD false) else l.any fun ns => (etD ns x).getD false)) else none
    | none => none)
  | none => none
theorem ok_inP {neg : Bool} : OpOk mg (RE mg) (rInI mg.K neg) (oInP neg) := by
  intro N c H st u v x y d Q W p1 p2 e k
  unfold oInP at e
  split at e
  · rename_i ys hy
    split at e
    · rename_i l hl
      split at e
      · rename_i hall
        cases e
        obtain ⟨a, vs, rfl, ha, r⟩ := RepT.read W p2 hy
        obtain ⟨ps, rfl, rfl, hp⟩ := tups_rel r hl
        refine ⟨a, ps, fun ns => (etD ns x).getD false, rfl, ha, fun p hq => ⟨hp p hq, ?_⟩, ?_⟩
        · have h1 : (etD p.2 x).isSome = true := List.all_eq_true.mp hall p.2 (List.mem_map_of_mem hq)
          cases hv : etD p.2 x with
          | none => rw [hv] at h1; cases h1
          | some b =>
            have e1 : (etD p.2 x).getD false = b := by rw [hv]; rfl
            show ETi mg.K H p.2 u ((etD p.2 x).getD false)
            rw [e1]
            exact et_rel hv p1
        · have : (ps.map (·.2)).any (fun ns => (etD ns x).getD false) = ps.any fun p => (etD p.2 x).getD false := by rw [List.any_map]; rfl
          rw [← this]
          exact k _ N c H Ex.refl W (.bl _)
      · cases e
    · cases e
  · cases e
end
section
variable {mg : Glob} {X : Cx} {a b : Expr} {pos p1 p2 p3 : Pos} {fa fb : SE}
theorem d_inP (hu : X.A.units + 65 < cLine) (ha : PE X a (tP mg fa)) (hb : PE X b (tP mg fb)) (hK : X.K = mg.K := by rfl) (hn : lastMarks [.In] [b] = false := by rfl) : PE X (.Compare a [.In] [b] pos) (tE mg (eOp (oInP false) fa fb)) := d_cmp (hK ▸ op_inI (by omega)) ok_inP back_E ha hb hn
end
end LW

/-! LwEh: != of lists of equal things, tuples and dicts among them (turned from LwYd and from the rule for tuples). -/
namespace PySem.SeqAt
open PySem
open MeetsSeq MeetsSeq2 MeetsSeq3 SeqRoads2
section
variable {prog : Program} {w : World}
end
end PySem.SeqAt
namespace LW
open PySem L2 PyProof.Rows
section
variable {X : Cx} {pins : List (Addr × Obj)} {σ : L2.St} {H : Hp} {s : Shared}
end
/-! ### equal data -/
section
variable {mg : Glob} {N : Prot} {c : List Addr} {H : Hp} {st : Sto}
end
section
variable {mg : Glob} {X : Cx} {a b : Expr} {pos : Pos} {fa fb : SE}
end
end LW

/-! LwEi: xs != [] , the things in xs of any kind. -/
namespace L2
open PySem PySem.Spec PyProof.Rows
end L2
namespace LW
open PySem L2 PyProof.Rows
section
variable {mg : Glob} {X : Cx} {a b : Expr} {pos : Pos} {fa fb : SE}
end
end LW
namespace L2
open PySem PySem.Spec PyProof.Rows
end L2
namespace LW
open PySem L2 PyProof.Rows
section
variable {mg : Glob} {X : Cx} {a b : Expr} {pos : Pos} {fa fb : SE}
end
end LW

/-! LwEj: how mirrors that may raise run, told backwards. -/
namespace LW
open PySem L2
section
variable {env : Env} {st : Sto} {f g : SX} {fs : SS} {fe : EX} {fv : SE} {t : SB} {Q : OutX → Sto → Prop} {QE : RX → Sto → Prop} {QS : Out → Sto → Prop} {cn : Str} {i : Nat}
theorem z_xSeq (h : Ok (f env st) fun o s => match o with
    | .o (.nx e) => Ok (g e s) Q
    | o => Q o s) : Ok (xSeq f g env st) Q := by
  obtain ⟨o, s, e, q⟩ := h
  unfold xSeq
  rw [e]
  cases o with
  | o o => cases o with
    | nx e1 => exact q
    | rt d => exact ⟨_, s, rfl, q⟩
    | bk e1 => exact ⟨_, s, rfl, q⟩
    | ct e1 => exact ⟨_, s, rfl, q⟩
  | ex cn d e1 => exact ⟨_, s, rfl, q⟩
theorem z_xIf (h : Ok (t env st) fun b s => if b = true then Ok (f env s) Q else Ok (g env s) Q) : Ok (xIf t f g env st) Q := by
  obtain ⟨b, s, e, q⟩ := h
  unfold xIf
  rw [e]
  cases b with
  | true => exact q
  | false => exact q
theorem z_xRaise (h : Ok (fv env st) fun d s => Q (.ex cn d env) s) : Ok (xRaise cn fv env st) Q := by
  obtain ⟨d, s, e, q⟩ := h
  exact ⟨_, s, by unfold xRaise; rw [e], q⟩
theorem z_xL (h : Ok (fs env st) fun o s => Q (.o o) s) : Ok (xL fs env st) Q := by
  obtain ⟨o, s, e, q⟩ := h
  exact ⟨_, s, by unfold xL; rw [e]; rfl, q⟩
theorem z_xNil (q : Q (.o (.nx env)) st) : Ok (xNil env st) Q := ⟨_, st, rfl, q⟩
theorem z_xDrop (h : Ok (fe env st) fun r s => match r with
    | .ok _ => Q (.o (.nx env)) s
    | .ex cn d => Q (.ex cn d env) s) : Ok (xDrop fe env st) Q := by
  obtain ⟨r, s, e, q⟩ := h
  cases r with
  | ok d => exact ⟨_, s, by unfold xDrop; rw [e], q⟩
  | ex cn d => exact ⟨_, s, by unfold xDrop; rw [e], q⟩
theorem z_xRet (h : Ok (fe env st) fun r s => match r with
    | .ok d => Q (.o (.rt d)) s
    | .ex cn d => Q (.ex cn d env) s) : Ok (xRet fe env st) Q := by
  obtain ⟨r, s, e, q⟩ := h
  cases r with
  | ok d => exact ⟨_, s, by unfold xRet; rw [e], q⟩
  | ex cn d => exact ⟨_, s, by unfold xRet; rw [e], q⟩
theorem z_eCallX {gx : FX} {dd : List D} {fa : SA} (h : Ok (fa env st) fun ds s => Ok (gx (ds ++ dd) s) QE) : Ok (eCallX gx dd fa env st) QE := by
  obtain ⟨ds, s, e, q⟩ := h
  unfold eCallX
  rw [e]
  exact q
theorem z_sTry {sub : Str → Str → Option Bool} {l : List Cl} (h : Ok (f env st) fun o s => match o with
    | .o o => QS o s
    | .ex cn d e1 => Ok (hRun sub cn d l e1 s) QS) : Ok (sTry sub f l env st) QS := by
  obtain ⟨o, s, e, q⟩ := h
  unfold sTry
  rw [e]
  cases o with
  | o o => exact ⟨_, s, rfl, q⟩
  | ex cn d e1 => exact q
end
end LW

/-! LwEk: repr of texts and tuples. -/
namespace LW
open PySem L2 Builtin.Str
end LW

/-! LwFa: a new list as a cell, anywhere in an expression; loops over a cell of any things. -/
namespace LW
open PySem L2 PyProof.Rows
def eCel (f : Fx (List D)) : SE := fun env st => match f env st with
  | some (xs, s1) => some (.cell s1.length, s1 ++ [xs])
  | none => none
section
variable {mg : Glob} {N N' : Prot} {c c' : List Addr} {H H' : Hp} {st st' : Sto} {v : V} {xs : List D}
end
section
variable {mg : Glob} {X : Cx} {e : Expr} {f : Fx (List D)}
end
/-! ### loops over a cell of any things -/
section
variable {mg : Glob} {N : Prot} {c : List Addr} {H : Hp} {K : PySem.W.Frag}
end
section
variable {mg : Glob} {X : Cx} {tg e : Expr} {fe : SE}
end
section
variable {env : Env} {st : Sto} {fe : SE} {f : Fx (List D)} {Q : D → Sto → Prop} {QI : Src → Sto → Prop}
theorem z_cel (h : Ok (f env st) fun xs s => Q (.cell s.length) (s ++ [xs])) : Ok (eCel f env st) Q := by
  obtain ⟨xs, s, e, q⟩ := h
  exact ⟨_, _, by unfold eCel; rw [e], q⟩
end
end LW

/-! LwFb: classes whose __init__ may raise. -/
namespace LW
open PySem L2 PyProof.Rows
inductive RIX where
  | ok (ns : List Str) (vs : List D) | ex (cn : Str) (d : D)
abbrev FIX := List D → Sto → Option (RIX × Sto)
section
variable {P : Program} {w : World} {K : PySem.W.Frag} {mg : Str → Option Value} {base : Heap}
end
section
variable {mg : Glob} {X : Cx} {W : WX} {k : Nat} {f C : Addr} {fd : FuncData} {ps : List Str} {g : FIX} {n : Nat} {dvs : List V} {ds : List Value} {dd : List D} {x : Str} {p pos : Pos} {e : Expr} {es : List Expr} {fs : SA}
end
end LW

/-! LwFc: short words for classes whose __init__ may raise. -/
namespace LW
open PySem L2 PyProof.Rows
section
variable (P : Program) (w : World) (K : PySem.W.Frag) (mg : Str → Option Value) (base : Heap)
end
section
variable {P : Program} {w : World} {K : PySem.W.Frag} {mg : Str → Option Value} {base : Heap} {k n : Nat} {cn qual : Str} {C : Addr} {st : Stmt} {nm ps : List Str} {body : SX}
end
section
variable {mg : Glob} {X : Cx} {W : WX} {k n : Nat} {C : Addr} {ps : List Str} {g : FIX} {x : Str} {p pos : Pos} {e : Expr} {es : List Expr} {fs : SA}
end
/-! ### forward rules -/
section
variable {env : Env} {st : Sto} {QE : RX → Sto → Prop}
end
end LW

/-! LwFd: xs == [] , the things in xs of any kind. -/
namespace L2
open PySem PySem.Spec PyProof.Rows
def rEqN (K : PySem.W.Frag) : R2 := fun x y H Q => ∃ (a b : Addr) (xs : List V), x = .ref a ∧ y = .ref b ∧ SqL K H a xs ∧ SqL K H b [] ∧ Q (.bl xs.isEmpty) H
theorem op_eqN {X : Cx} (hu : X.A.units < cLine) : OpR X (compareOp .Eq) (rEqN X.K) := by
  intro pins s σ H x y v u Q I rx ry h
  obtain ⟨a, b, xs, rfl, rfl, ha, hb, q⟩ := h
  obtain rfl : v = Value.ref a := rx
  obtain rfl : u = Value.ref b := ry
  obtain ⟨us, r1, p1, _⟩ := I.list ha
  obtain ⟨ws, r2, p2, _⟩ := I.list hb
  cases r2
  cases xs with
  | nil =>
    cases r1
    have rc := SeqAt.RcAt.lists (A := X.A) (e := fun _ => true) (plainL_is p1) (plainL_is p2) rfl hu (fun j h1 h2 => absurd h1 (by simp))
    exact rc X.prog X.w X.xe _ ⟨.bl true, H, I, rfl, q⟩
  | cons y ys =>
    have hz : (us.toArray.size != ([] : List Value).toArray.size) = true := by
      have l := r1.length
      rw [List.size_toArray, ← l]
      simp
    have rc := SeqAt.RcAt.lists_lengths (A := X.A) (plainL_is p1) (plainL_is p2) hz hu
    exact rc X.prog X.w X.xe _ ⟨.bl false, H, I, rfl, q⟩
end L2
namespace LW
open PySem L2 PyProof.Rows
/-- xs == [] -/
def oEqN : D → D → Sto → Option D := fun x y st => match lstR st x, y with
  | some xs, .lst [] => some (.bl xs.isEmpty)
  | _, _ => none
theorem ok_eqN {mg : Glob} : OpOk mg (RE mg) (rEqN mg.K) oEqN := by
  intro N c H st u v x y d Q W p1 p2 e k
  unfold oEqN at e
  split at e
  · rename_i xs hx
    cases e
    obtain ⟨a, us, rfl, ha, r⟩ := RepT.read W p1 hx
    obtain ⟨b, vs, rfl, hb, r'⟩ := RepT.read W p2 (xs := []) rfl
    cases r'
    refine ⟨a, b, us, rfl, rfl, ha, hb, ?_⟩
    have : us.isEmpty = xs.isEmpty := by cases r <;> rfl
    rw [this]
    exact k _ N c H Ex.refl W (.bl _)
  · cases e
section
variable {mg : Glob} {X : Cx} {a b : Expr} {pos : Pos} {fa fb : SE}
theorem d_eqN (hu : X.A.units < cLine) (ha : PE X a (tP mg fa)) (hb : PE X b (tP mg fb)) (hK : X.K = mg.K := by rfl) : PE X (.Compare a [.Eq] [b] pos) (tE mg (eOp oEqN fa fb)) := d_cmp (hK ▸ op_eqN hu) ok_eqN back_E ha hb (nomark _)
end
end LW

/-! LwGa: dicts in cells: made, written, cleared. -/
namespace LW
open PySem L2 PyProof.Rows
section
variable {mg : Glob} {N N' : Prot} {c c' : List Addr} {H H' : Hp} {st st' : Sto} {v : V} {xs : List D}
end
/-- a new dict as a cell -/
def eDcl (f : Fx DK) : SE := fun env st => match f env st with
  | some (d, s1) => some (.dcl s1.length, s1 ++ [unC d])
  | none => none
section
variable {mg : Glob} {X : Cx} {e : Expr} {f : Fx DK}
end
/-- d[k] = e, d a dict in a cell -/
def sPutDC (fo fk fe : SE) : SS := fun env st => match fe env st with
  | some (d, s1) => match fo env s1 with
    | some (.dcl k, s2) => match fk env s2 with
      | some (y, s3) => match keyD y with
        | some kk => match dcU s3 k with
          | some p => if p.1.length < 1000000 then some (.nx env, s3.set k (unC (putKD p kk d))) else none
          | none => none
        | none => none
      | none => none
    | _ => none
  | none => none
/-- d.clear() -/
def sClrC (fo : SE) : SS := fun env st => match fo env st with
  | some (.dcl k, s1) => match dcU s1 k with
    | some _ => some (.nx env, s1.set k (unC ([], [])))
    | none => none
  | _ => none
section
variable {mg : Glob} {X : Cx} {e o ek : Expr} {pos apos cpos tpos : Pos} {fe fo fk : SE}
end
end LW

/-! LwGb: walks over the keys of a dict in a cell. -/
namespace LW
open PySem L2 PyProof.Rows
open Classical
noncomputable section
end
section
variable {mg : Glob} {N N' : Prot} {c c' : List Addr} {H H' : Hp} {st st' : Sto}
end
section
variable {mg : Glob} {X : Cx} {tg : Expr} {pos : Pos}
variable {eltE : Expr} {ifs : List Expr} {scope : Scope} {own : List (Str × Nat)} {asg : D → Env → Option Env} {cond : SB} {elt : SE} {g : TG} {is : List Nat}
end
end LW
namespace LW
open PySem L2 PyProof.Rows
open Classical
section
variable {mg : Glob} {X : Cx} {tg : Expr} {body : List Stmt} {pos : Pos} {fb : SS} {asg : D → Env → Option Env} {g : TG} {is : List Nat}
end
/-! ### how mirrors run -/
section
variable {asg : D → Env → Option Env} {cond : SB} {elt : SE} {env0 : Env} {st : Sto} {vs : List Nat} {QL : List D → Sto → Prop} {i k : Nat} {p : DK} {fb : SS} {QO : Out → Sto → Prop}
theorem dcU_of {st : Sto} {k : Nat} {p : DK} (h : st[k]? = some (unC p)) : dcU st k = some p := by
  unfold dcU
  rw [h]
  rfl
end
end LW

/-! LwGc: == and != of equal things whatever the order of their dicts' keys, lists and dicts in cells too. -/
namespace LW
open PySem L2 PyProof.Rows
section
variable {X : Cx}
end
/-! ### equal data, with a store -/
section
variable {mg : Glob} {N : Prot} {c : List Addr} {H : Hp} {st : Sto}
end
section
variable {mg : Glob} {X : Cx} {a b : Expr} {pos : Pos} {fa fb : SE}
end
end LW

/-! LwGd: while; len(d), list(d), dict(d) of a dict of the frame's own; len(set(list of texts)). -/
namespace LW
open PySem L2 PySem.Spec PyProof.Rows
/-! ### while, at most n turns -/
section
variable {mg : Glob} {X : Cx} {c : Expr} {body : List Stmt} {pos : Pos} {cond : SB} {fb : SS} {n : Nat}
end
section
variable {cond : SB} {body : SS} {env : Env} {st : Sto} {n : Nat} {QS : Out → Sto → Prop}
end
/-! ### len(d), list(d) -/
section
variable {mg : Glob} {X : Cx} {e : Expr} {es : List Expr} {p pos : Pos} {f : SA}
end
/-! ### dict(x), x a dict of the frame's own -/
def eDictO (i : Nat) : Fx DK := fun env st => match env[i]? with
  | some (.ownD ks ds) => some ((ks, ds), st)
  | _ => none
/-! ### len(set(list of texts)) -/
def eLenSN (fa : SE) : SE := fun env st => match fa env st with
  | some (x, s1) => (match lstS s1 x with
    | some zs => if zs.length < 64 then some (.int (sortN zs).length, s1) else none
    | none => none)
  | none => none
end LW

/-! LwGe: x = [.. for .. in .. for .. in ..]. -/
namespace LW
open PySem L2 PyProof.Rows
section
variable {mg : Glob} {X : Cx} {fi fi2 : Fx Src} {asg asg2 : D → Env → Option Env} {cond cond2 : SB} {elt : SE} {g g2 : TG} {is is2 vs2 : List Nat} {eltE tg iter tg1 iter1 : Expr} {ifs ifs1 : List Expr} {scope : Scope} {own : List (Str × Nat)} {pos : Pos}
end
end LW

/-! LwGf: how mirrors with dicts in cells run. -/
namespace LW
open PySem L2
@[reducible] def AsDc : D → (Nat → Prop) → Prop
  | .dcl b, Q => Q b
  | _, _ => False
theorem AsDc.of {d : D} {Q : Nat → Prop} (h : AsDc d Q) : ∃ b, d = .dcl b ∧ Q b := by
  cases d <;> first | exact ⟨_, rfl, h⟩ | exact h.elim
section
variable {env : Env} {st : Sto} {Q : D → Sto → Prop} {QB : Bool → Sto → Prop} {QK : DK → Sto → Prop} {QL : List D → Sto → Prop} {QS : Out → Sto → Prop} {i : Nat} {d : D} {fa fb fe fo fk : SE} {f : Fx DK} {fs : SA}
theorem z_dcl (h : Ok (f env st) fun d s1 => Q (.dcl s1.length) (s1 ++ [unC d])) : Ok (eDcl f env st) Q := by
  obtain ⟨d, s1, e1, h⟩ := h
  exact ⟨_, _, by unfold eDcl; rw [e1], h⟩
theorem z_putDC (h : Ok (fe env st) fun d s1 => Ok (fo env s1) fun o s2 => AsDc o fun k => Ok (fk env s2) fun y s3 => ∃ kk p, keyD y = some kk ∧ s3[k]? = some (unC p) ∧ p.1.length < 1000000 ∧ QS (.nx env) (s3.set k (unC (putKD p kk d)))) : Ok (sPutDC fo fk fe env st) QS := by
  obtain ⟨d, s1, e1, o, s2, e2, h⟩ := h
  obtain ⟨k, rfl, y, s3, e3, kk, p, e4, e5, l, q⟩ := h.of
  exact ⟨_, _, by unfold sPutDC; rw [e1]; dsimp only; rw [e2]; dsimp only; rw [e3]; dsimp only; rw [e4]; dsimp only; rw [dcU_of e5]; dsimp only; rw [if_pos l], q⟩
theorem z_clrC (h : Ok (fo env st) fun o s1 => AsDc o fun k => ∃ p, s1[k]? = some (unC p) ∧ QS (.nx env) (s1.set k (unC ([], [])))) : Ok (sClrC fo env st) QS := by
  obtain ⟨o, s1, e1, h⟩ := h
  obtain ⟨k, rfl, p, e2, q⟩ := h.of
  exact ⟨_, _, by unfold sClrC; rw [e1]; dsimp only; rw [dcU_of e2], q⟩
theorem z_dictO {ks : List Key} {ds : List D} (e : env[i]? = some (.ownD ks ds)) (q : QK (ks, ds) st) : Ok (eDictO i env st) QK := ⟨_, st, by unfold eDictO; rw [e], q⟩
theorem z_lenSN (h : Ok (fe env st) fun x s => ∃ zs, lstS s x = some zs ∧ zs.length < 64 ∧ Q (.int (sortN zs).length) s) : Ok (eLenSN fe env st) Q := by
  obtain ⟨x, s1, e1, zs, e2, l, q⟩ := h
  exact ⟨_, s1, by unfold eLenSN; rw [e1]; dsimp only; rw [e2]; dsimp only; rw [if_pos l], q⟩
theorem z_lc2 {fi fi2 : Fx Src} {asg asg2 : D → Env → Option Env} {cond cond2 : SB} {elt : SE} {vs vs2 : List Nat} (h : Ok (fi env st) fun xs s1 => Ok (comp2M xs.2 asg cond fi2 asg2 cond2 elt vs2 (wipeE env vs) xs.1 s1) fun ys s => ys.length ≤ 1000000 ∧ QL ys s) : Ok (lComp2 fi asg cond fi2 asg2 cond2 elt vs vs2 env st) QL := by
  obtain ⟨x, s1, e1, ys, s, e2, l, q⟩ := h
  exact ⟨_, _, by unfold lComp2; rw [e1]; dsimp only; rw [e2]; dsimp only; rw [if_pos l], q⟩
end
end LW

/-! LwGg: d.get(k, x), list(d.items()) of a dict in a cell. -/
namespace LW
open PySem L2 PyProof.Rows
section
variable {mg : Glob} {X : Cx} {o e f : Expr} {apos cpos pos p : Pos} {fo fk fx : SE}
end
section
variable {mg : Glob} {X : Cx} {e : Expr} {apos cpos pos p : Pos} {fo : SE}
end
section
variable {env : Env} {st : Sto} {Q : D → Sto → Prop} {QL : List D → Sto → Prop} {fo fk fx : SE}
end
end LW

/-! LwHa: instances in cells: made, read, written, their methods; methods with defaults. -/
namespace LW
open PySem L2 PyProof.Rows
/-- the instance in a cell -/
def ocG (st : Sto) (k : Nat) : Option (Str × List Str × List D) := match st[k]? with
  | some [.dit [_] [], .obj cn ns vs] => some (cn, ns, vs)
  | _ => none
abbrev iC (cn : Str) (ns : List Str) (vs : List D) : List D := [tagD, .obj cn ns vs]
theorem ocG_of {st : Sto} {k : Nat} {cn : Str} {ns : List Str} {vs : List D} (e : st[k]? = some (iC cn ns vs)) : ocG st k = some (cn, ns, vs) := by
  unfold ocG
  rw [e]
  rfl
theorem Wd.ocG {mg : Glob} {N : Prot} {c : List Addr} {H : Hp} {st : Sto} (W : Wd mg N c H st) {k : Nat} {a : Addr} {cn : Str} {ns : List Str} {vs : List D} (hc : c[k]? = some a) (e : ocG st k = some (cn, ns, vs)) :
    ∃ C dx fs, H a = some (.ins C dx fs) ∧ mg.mg cn = some (.ref C) ∧ fs.map (·.1) = ns ∧ RepL mg N c H (fs.map (·.2)) vs := by
  unfold LW.ocG at e
  split at e
  · rename_i h
    cases e
    obtain ⟨o, ha, r⟩ := W.sto k a _ hc h
    cases r with
    | l r => have := r.noTag; cases this
    | i hC r => exact ⟨_, _, _, ha, hC, rfl, r⟩
  · cases e
/-! ### made -/
def eMakeC (cn : Str) (g : FI) (dd : List D) (f : SA) : SE := fun env st => match f env st with
  | none => none
  | some (ds, s1) => match g (ds ++ dd) s1 with
    | none => none
    | some ((ns, fds), s2) => some (.ocl s2.length, s2 ++ [iC cn ns fds])
section
variable {mg : Glob} {X : Cx} {k : Nat} {f C : Addr} {fd : FuncData} {ps : List Str} {g : FI} {n : Nat} {dvs : List V} {ds : List Value} {dd : List D} {x m : Str} {p pos apos : Pos} {e o : Expr} {es : List Expr} {fs : SA} {fo : SE}
end
/-! ### methods -/
def eMethC (cn m : Str) (g : FM) (dd : List D) (fo : SE) (f : SA) : SE := fun env st => match fo env st with
  | some (.ocl k, s1) => match ocG s1 k with
    | some (cn', ns, _) => if cn' = cn ∧ ¬ m ∈ ns then (match f env s1 with
        | none => none
        | some (ds, s2) => g (.ocl k :: (ds ++ dd)) s2) else none
    | none => none
  | _ => none
section
variable {mg : Glob} {X : Cx} {k : Nat} {f C : Addr} {fd : FuncData} {ps : List Str} {g : FM} {n : Nat} {dvs : List V} {ds : List Value} {dd : List D} {x m : Str} {p pos apos : Pos} {e o : Expr} {es : List Expr} {fs : SA} {fo : SE}
/-! ### fields -/
def eFldC (cn m : Str) (fo : SE) : SE := fun env st => match fo env st with
  | some (.ocl k, s1) => match ocG s1 k with
    | some (cn', ns, vs) => if cn' = cn then (match fldD m ns vs with
        | some d => some (d, s1)
        | none => none) else none
    | none => none
  | _ => none
/-- o.m = e -/
def sFldC (cn m : Str) (fo fe : SE) : SS := fun env st => match fe env st with
  | some (d, s1) => match fo env s1 with
    | some (.ocl k, s2) => match ocG s2 k with
      | some (cn', ns, vs) => if cn' = cn ∧ ns.length < 1000 then some (.nx env, s2.set k (iC cn' (putD m d ns vs).1 (putD m d ns vs).2)) else none
      | none => none
    | _ => none
  | none => none
end
/-! ### methods with defaults -/
section
variable (P : Program) (w : World) (K : PySem.W.Frag) (mg : Str → Option Value) (base : Heap)
end
section
variable {P : Program} {w : World} {K : PySem.W.Frag} {mg : Str → Option Value} {base : Heap} {k : Nat} {x m qual cn : Str} {st : Stmt} {nm ps : List Str} {body : SS} {C : Addr}
end
/-! ### short words -/
section
variable {X : Cx} {k : Nat} {C : Addr} {ps : List Str} {g : FM} {gi : FI} {n : Nat} {dvs : List V} {dd : List D} {x m cn : Str} {p pos apos : Pos} {e o a b : Expr} {es : List Expr} {fs : SA} {fo fa fb : SE}
end
/-! ### told backwards -/
@[reducible] def AsOc : D → (Nat → Prop) → Prop
  | .ocl b, Q => Q b
  | _, _ => False
theorem AsOc.of {d : D} {Q : Nat → Prop} (h : AsOc d Q) : ∃ b, d = .ocl b ∧ Q b := by
  cases d <;> first | exact ⟨_, rfl, h⟩ | exact h.elim
section
variable {env : Env} {st : Sto} {Q : D → Sto → Prop} {QS : Out → Sto → Prop} {fe fo : SE} {fs : SA} {cn m : Str} {dd : List D}
theorem z_makeC {g : FI} (h : Ok (fs env st) fun ds s => Ok (g (ds ++ dd) s) fun r s2 => Q (.ocl s2.length) (s2 ++ [iC cn r.1 r.2])) : Ok (eMakeC cn g dd fs env st) Q := by
  obtain ⟨x, s1, e1, r, s2, e2, q⟩ := h
  exact ⟨_, _, by unfold eMakeC; rw [e1]; dsimp only; rw [e2], q⟩
theorem z_methC {g : FM} (h : Ok (fo env st) fun o s1 => AsOc o fun k => ∃ ns vs, s1[k]? = some (iC cn ns vs) ∧ ¬ m ∈ ns ∧ Ok (fs env s1) fun ds s2 => Ok (g (.ocl k :: (ds ++ dd)) s2) Q) : Ok (eMethC cn m g dd fo fs env st) Q := by
  obtain ⟨o, s1, e1, h⟩ := h
  obtain ⟨k, rfl, ns, vs, ek, hm, ds, s2, e2, d, s3, e3, q⟩ := h.of
  exact ⟨d, s3, by unfold eMethC; rw [e1]; dsimp only; rw [ocG_of ek]; dsimp only; rw [if_pos ⟨rfl, hm⟩, e2]; exact e3, q⟩
theorem z_fldC (h : Ok (fo env st) fun o s1 => AsOc o fun k => ∃ ns vs, s1[k]? = some (iC cn ns vs) ∧ Od (fldD m ns vs) fun d => Q d s1) : Ok (eFldC cn m fo env st) Q := by
  obtain ⟨o, s1, e1, h⟩ := h
  obtain ⟨k, rfl, ns, vs, ek, d, e3, q⟩ := h.of
  exact ⟨d, s1, by unfold eFldC; rw [e1]; dsimp only; rw [ocG_of ek]; dsimp only; rw [if_pos rfl, e3], q⟩
theorem z_sfldC (h : Ok (fe env st) fun d s1 => Ok (fo env s1) fun o s2 => AsOc o fun k => ∃ ns vs, s2[k]? = some (iC cn ns vs) ∧ ns.length < 1000 ∧ QS (.nx env) (s2.set k (iC cn (putD m d ns vs).1 (putD m d ns vs).2))) : Ok (sFldC cn m fo fe env st) QS := by
  obtain ⟨d, s1, e1, o, s2, e2, h⟩ := h
  obtain ⟨k, rfl, ns, vs, ek, l, q⟩ := h.of
  exact ⟨_, _, by unfold sFldC; rw [e1]; dsimp only; rw [e2]; dsimp only; rw [ocG_of ek]; dsimp only; rw [if_pos ⟨rfl, l⟩], q⟩
end
end LW

/-! LwIa: methods that may raise; conditional expressions, loops and pairs that may raise; raise C(). -/
namespace LW
open PySem L2 PyProof.Rows
/-! ### methods that may raise -/
def eMethX (cn m : Str) (g : FX) (dd : List D) (fo : SE) (f : SA) : EX := fun env st => match fo env st with
  | some (.obj cn' ns vs, s1) => if cn' = cn ∧ ¬ m ∈ ns then (match f env s1 with
      | none => none
      | some (ds, s2) => g (.obj cn' ns vs :: (ds ++ dd)) s2) else none
  | _ => none
def eMethCX (cn m : Str) (g : FX) (dd : List D) (fo : SE) (f : SA) : EX := fun env st => match fo env st with
  | some (.ocl k, s1) => match ocG s1 k with
    | some (cn', ns, _) => if cn' = cn ∧ ¬ m ∈ ns then (match f env s1 with
        | none => none
        | some (ds, s2) => g (.ocl k :: (ds ++ dd)) s2) else none
    | none => none
  | _ => none
section
variable {mg : Glob} {X : Cx} {W : WX} {k : Nat} {f C : Addr} {fd : FuncData} {ps : List Str} {g : FX} {n : Nat} {dvs : List V} {ds : List Value} {dd : List D} {x m : Str} {p pos apos : Pos} {e o : Expr} {es : List Expr} {fs : SA} {fo : SE}
end
/-! ### short words -/
section
variable (P : Program) (w : World) (K : PySem.W.Frag) (mg : Str → Option Value) (base : Heap)
end
section
variable {P : Program} {w : World} {K : PySem.W.Frag} {mg : Str → Option Value} {base : Heap} {k : Nat} {x m qual : Str} {st : Stmt} {nm ps : List Str} {body : SX} {C : Addr}
end
section
variable {X : Cx} {W : WX} {k : Nat} {C : Addr} {ps : List Str} {g : FX} {m cn : Str} {p pos apos : Pos} {e o : Expr} {es : List Expr} {fs : SA} {fo : SE}
end
/-! ### a if c else b; plain expressions among those that may raise -/
def xIfE (t : SB) (f g : EX) : EX := fun env st => match t env st with
  | some (true, s1) => f env s1
  | some (false, s1) => g env s1
  | none => none
def xEL (f : SE) : EX := fun env st => match f env st with
  | some (d, s1) => some (.ok d, s1)
  | none => none
section
variable {mg : Glob} {X : Cx} {W : WX} {e a b c : Expr} {pos : Pos} {f g : EX} {fe : SE} {t : SB}
theorem PostE.from {σ : L2.St} {N N' : Prot} {c c' : List Addr} {H H' : Hp} {st st' : Sto} {Q : VK} {r : RX} (x : Ex N c H N' c' H') (W0 : Wd mg N c H st) (p : PostE mg W σ N c H Q r st') : PostE mg W σ N' c' H' Q r st' := by
  cases r with
  | ok d => exact fun v N2 c2 H2 x2 W2 r2 => p v N2 c2 H2 (x.trans x2 W0) W2 r2
  | ex cn d => exact fun N2 c2 H2 cls da x2 W2 z => p N2 c2 H2 cls da (x.trans x2 W0) W2 z
end
/-! ### for -/
def loopX (chk : Sto → Bool) (asg : D → Env → Option Env) (body : SX) : List D → Env → Sto → Option (OutX × Sto)
  | [], env, st => if chk st = true then some (.o (.nx env), st) else none
  | d :: ds, env, st => if chk st = true then (match asg d env with
    | none => none
    | some e1 => match body e1 st with
      | some (.o (.nx e2), s2) => loopX chk asg body ds e2 s2
      | some (.o (.ct e2), s2) => loopX chk asg body ds e2 s2
      | some (.o (.bk e2), s2) => some (.o (.nx e2), s2)
      | some (.o (.rt d), s2) => some (.o (.rt d), s2)
      | some (.ex cn d e2, s2) => some (.ex cn d e2, s2)
      | none => none) else none
def xFor (fi : Fx Src) (asg : D → Env → Option Env) (body : SX) : SX := fun env st => match fi env st with
  | none => none
  | some (xs, s1) => loopX xs.2 asg body xs.1 env s1
section
variable {mg : Glob} {X : Cx} {W : WX} {tg iter : Expr} {body : List Stmt} {pos : Pos} {fi : Fx Src} {asg : D → Env → Option Env} {fb : SX} {g : TG} {is : List Nat}
end
/-! ### a, b = x, y: the first may raise -/
def xPar2 (i j : Nat) (f : EX) (g : Fx Sl) : SX := fun env st => match f env st with
  | some (.ok d, s1) => (match g env s1 with
    | some (y, s2) => if i = j then none else some (.o (.nx ((env.set i (.val d)).set j y)), s2)
    | none => none)
  | some (.ex cn d, s1) => some (.ex cn d env, s1)
  | none => none
section
variable {mg : Glob} {X : Cx} {W : WX} {a b : Expr} {pos : Pos} {fa : EX} {fb : Fx Sl}
end
/-! ### raise C(), a class without an own __init__ -/
def xBare (cn : Str) : SX := fun env st => some (.ex cn bareD env, st)
end LW

/-! LwIb: raise C() of a class without an own __init__; len(o) by an own __len__; == of lists of tuples with instances that have an own __eq__. -/
namespace LW
open PySem L2 PyProof.Rows
/-! ### raise C() -/
section
variable {X : Cx} {C : Addr} {x : Str} {p pos pos2 : Pos} {mg : Glob} {W : WX}
end
/-! ### len(o) -/
section
variable {X : Cx} {k : Nat} {f C : Addr} {fd : FuncData} {ps : List Str} {sp : Sp}
end
def isOf (st : Sto) (cn : Str) : D → Bool
  | .obj c _ _ => decide (c = cn)
  | .ocl k => match ocG st k with
    | some (c, _, _) => decide (c = cn)
    | none => false
  | _ => false
def eLenO (cn : Str) (g : FM) (fo : SE) : SE := fun env st => match fo env st with
  | some (d, s1) => if isOf s1 cn d = true then (match g [d] s1 with
    | some (.int n, s2) => if 0 ≤ n ∧ n < 2 ^ 63 then some (.int n, s2) else none
    | _ => none) else none
  | none => none
section
variable {X : Cx} {k : Nat} {C : Addr} {ps : List Str} {g : FM} {cn : Str} {p pos : Pos} {e : Expr} {fo : SE}
end
section
variable {env : Env} {st : Sto} {Q : D → Sto → Prop} {fo : SE} {cn : Str} {g : FM}
theorem z_lenO (h : Ok (fo env st) fun d s1 => isOf s1 cn d = true ∧ Ok (g [d] s1) fun r s2 => ∃ n : Int, r = .int n ∧ 0 ≤ n ∧ n < 2 ^ 63 ∧ Q (.int n) s2) : Ok (eLenO cn g fo env st) Q := by
  obtain ⟨d, s1, e1, hi, r, s2, e2, n, rfl, h0, h1, q⟩ := h
  exact ⟨_, s2, by unfold eLenO; rw [e1]; dsimp only; rw [if_pos hi, e2]; dsimp only; rw [if_pos ⟨h0, h1⟩], q⟩
end
end LW

/-! LwIc: == of two lists of equal data, with instances of one class that has an own __eq__ within. -/
namespace LW
open PySem L2 PyProof.Rows
abbrev nobody : Prot := fun _ => False
section
variable {mg : Glob} {N : Prot} {c : List Addr} {H H' : Hp}
end
section
variable {X : Cx} {k : Nat} {C f : Addr} {fd : FuncData} {g : FM} {cn : Str} {ps : List Str}
end
/-! ### the rule -/
section
variable {X : Cx} {k : Nat} {C : Addr} {cs : List Str} {g : FM} {cn : Str} {a b : Expr} {pos : Pos} {fa fb : SE}
end
section
variable {s : Sto} {Q : D → Prop} {cn : Str} {g : FM} {xs ys : List D}
end
end LW

/-! LwId: one of two readings; a frozen slot ahead of a statement that may raise; comprehensions over the keys of a field's dict; sorted(d.items()). -/
namespace LW
open PySem L2 PyProof.Rows
/-! ### the one reading or the other -/
def xFrz (i : Nat) (f : SX) : SX := fun env st => f (frz i env) st
section
variable {mg : Glob} {X : Cx} {W : WX} {e : Expr} {s : Stmt} {f g : SE} {fx : SX}
end
/-! ### [.. for key in o.m if ..] -/
section
variable {mg : Glob} {X : Cx} {tg : Expr} {pos : Pos} {cn m : Str} {C : Addr}
variable {eltE : Expr} {ifs : List Expr} {scope : Scope} {own : List (Str × Nat)} {asg : D → Env → Option Env} {cond : SB} {elt : SE} {g : TG} {is : List Nat}
end
/-! ### sorted(d.items()) -/
/-- the text of the pair at an address -/
def kx (as : List Addr) (zs : List Str) : Value → Str
  | .ref b => (zs[as.idxOf b]?).getD ""
  | _ => ""
section
variable {prog : Program} {w : World} {A : Around} {s : Shared}
end
end LW

/-! LwIe: sorted(d.items()), d a dict of texts' keys. -/
namespace LW
open PySem PySem.Spec L2 PyProof.Rows
section
variable {X : Cx} {e : Expr} {te : TE} {p apos cpos pos : Pos}
end
/-! ### the mirror -/
def itS (p : DK) (zs : List Str) : List D := (sortS zs).map fun z => .tup [.str z, (getD p.1 p.2 (.inr z)).getD .non]
def eSortIt (fo : SE) : Fx (List D) := fun env st => match fo env st with
  | some (o, s1) => match dicG s1 o with
    | some p => match strKeys p.1 with
      | some zs => some (itS p zs, s1)
      | none => none
    | none => none
  | none => none
section
variable {mg : Glob} {N : Prot} {c : List Addr} {H H' : Hp}
end
section
variable {mg : Glob} {X : Cx} {e : Expr} {apos cpos pos p : Pos} {fo : SE}
end
section
variable {env : Env} {st : Sto} {Q : D → Sto → Prop} {QL : List D → Sto → Prop} {fo : SE}
theorem z_sortIt (h : Ok (fo env st) fun o s1 => ∃ p zs, dicG s1 o = some p ∧ strKeys p.1 = some zs ∧ QL (itS p zs) s1) : Ok (eSortIt fo env st) QL := by
  obtain ⟨o, s1, e1, p, zs, e2, e3, q⟩ := h
  exact ⟨_, s1, by unfold eSortIt; rw [e1]; dsimp only; rw [e2]; dsimp only; rw [e3], q⟩
end
end LW

/-! LwIf: how the mirrors of LwIa … LwIe run, told backwards. -/
namespace LW
open PySem L2
section
variable {env : Env} {st : Sto} {f g : EX} {fx : SX} {fe fo : SE} {fs : SA} {t : SB} {Q : OutX → Sto → Prop} {QE : RX → Sto → Prop} {QD : D → Sto → Prop} {QS : Out → Sto → Prop} {cn m : Str} {i j : Nat}
theorem z_xSet (h : Ok (f env st) fun r s => match r with
    | .ok d => Q (.o (.nx (env.set i (.val d)))) s
    | .ex cn d => Q (.ex cn d env) s) : Ok (xSet i f env st) Q := by
  obtain ⟨r, s, e, q⟩ := h
  cases r with
  | ok d => exact ⟨_, s, by unfold xSet; rw [e], q⟩
  | ex cn d => exact ⟨_, s, by unfold xSet; rw [e], q⟩
theorem z_methX {gx : FX} {dd : List D} (h : Ok (fo env st) fun d s => ∃ ns vs, d = .obj cn ns vs ∧ ¬ m ∈ ns ∧ Ok (fs env s) fun ds s2 => Ok (gx (.obj cn ns vs :: (ds ++ dd)) s2) QE) : Ok (eMethX cn m gx dd fo fs env st) QE := by
  obtain ⟨d, s, e, ns, vs, rfl, hm, ds, s2, e2, q⟩ := h
  unfold eMethX
  rw [e]
  dsimp only
  rw [if_pos ⟨rfl, hm⟩, e2]
  exact q
theorem z_methCX {gx : FX} {dd : List D} (h : Ok (fo env st) fun d s => AsOc d fun k => ∃ ns vs, s[k]? = some (iC cn ns vs) ∧ ¬ m ∈ ns ∧ Ok (fs env s) fun ds s2 => Ok (gx (.ocl k :: (ds ++ dd)) s2) QE) : Ok (eMethCX cn m gx dd fo fs env st) QE := by
  obtain ⟨d, s, e, h⟩ := h
  obtain ⟨k, rfl, ns, vs, hk, hn, ds, s2, e2, q⟩ := h.of
  unfold eMethCX
  rw [e]
  dsimp only
  rw [ocG_of hk]
  dsimp only
  rw [if_pos ⟨rfl, hn⟩, e2]
  exact q
theorem z_xIfE (h : Ok (t env st) fun b s => if b = true then Ok (f env s) QE else Ok (g env s) QE) : Ok (xIfE t f g env st) QE := by
  obtain ⟨b, s, e, q⟩ := h
  unfold xIfE
  rw [e]
  cases b with
  | true => exact q
  | false => exact q
theorem z_xEL (h : Ok (fe env st) fun d s => QE (.ok d) s) : Ok (xEL fe env st) QE := by
  obtain ⟨d, s, e, q⟩ := h
  exact ⟨_, s, by unfold xEL; rw [e], q⟩
theorem z_xPar2 {fg : Fx Sl} (hij : i ≠ j) (h : Ok (f env st) fun r s => match r with
    | .ok d => Ok (fg env s) fun y s2 => Q (.o (.nx ((env.set i (.val d)).set j y))) s2
    | .ex cn d => Q (.ex cn d env) s) : Ok (xPar2 i j f fg env st) Q := by
  obtain ⟨r, s, e, q⟩ := h
  cases r with
  | ok d =>
    obtain ⟨y, s2, e2, q⟩ := q
    exact ⟨_, s2, by unfold xPar2; rw [e]; dsimp only; rw [e2]; dsimp only; rw [if_neg hij], q⟩
  | ex cn d => exact ⟨_, s, by unfold xPar2; rw [e], q⟩
theorem z_xBare (q : Q (.ex cn bareD env) st) : Ok (xBare cn env st) Q := ⟨_, st, rfl, q⟩
theorem z_xFrz (h : Ok (fx (frz i env) st) Q) : Ok (xFrz i fx env st) Q := h
theorem z_xFor {fi : Fx Src} {asg : D → Env → Option Env} {body : SX} (h : Ok (fi env st) fun xs s => Ok (loopX xs.2 asg body xs.1 env s) Q) : Ok (xFor fi asg body env st) Q := by
  obtain ⟨xs, s, e, q⟩ := h
  unfold xFor
  rw [e]
  exact q
end
end LW

/-! LwHb: a head by one kernel run: the facts that a law needs, read by a Hook. -/
namespace LW
open PySem L2 PyProof.Rows
/-- the goal that head_any leaves, from the law's promise; the written part by facts -/
theorem walk_DE {l : PySem.W.OpenLaw} {n k : Nat} {q : Program} {loose : List Str} {XP : (Str → Option Value) → Heap → Prop} {YP : World → Heap → Prop} {d : DefRec} {x : Str} {g : FM}
    (hn : l.most = some n) (hn2 : n ≤ sizeLine) (hdf : d.params.defaults = []) (hr : Room k callerA)
    (F : ∀ (w : World) (mg : Str → Option Value) (fa : Addr) (h : Heap), YP w h → h.Ns mainGlobals mg → mg d.name = some (.ref fa) →
      ∃ K : PySem.W.Frag, K.In h ∧ ∃ fd : FuncData, (∀ (s : Shared) (u : Value), BindsTo s fd ⟨[u], []⟩ [(x, u)]) ∧ ∀ base : Heap, K.In base → base.Ns mainGlobals mg → FnD l.prog w K mg base k fa fd [x] (spM ⟨mg, K⟩ g 1))
    (hg : ∀ ns : List Int, ns.length ≤ n → ∃ st', g [.fro (ns.map D.int)] [] = some (.bl true, st')) :
    PySem.W.WalkO q loose XP YP l.row.toRowW d [] (fun f vs => PySem.call f vs) := by
  refine Att.attach_call hn hdf fun w s₀ s₁ mg mb fa o pm cd doc a vs ns G Y ho hd hcd hmg hobj hints hlen hg' => ?_
  obtain ⟨K, KX, fd, hb, hF⟩ := F w mg fa _ Y G.T.g hmg
  obtain ⟨st', e⟩ := hg ns hlen
  exact law_D KX G.T.g G.T.b G.T.builtins G.T.nolimit hg' hobj hints (Nat.le_trans hlen hn2) hr hF hb fun H hO hS => sp_law (mg := ⟨mg, K⟩) hO hS e
/-! ### the Hook: defs, facts by names, and one Bool more -/
/-! ### facts to words -/
section
variable {K : PySem.W.Frag} {h : Heap} {mg : Str → Option Value} {x cn m qual : Str} {st : Stmt}
theorem ft_of (X : K.In h) (G : h.Ns mainGlobals mg) (c : (He.Fa.glo x).ok K = true) (F : ∃ fd, FunD K x x (defArgs st) (defBody st) (defScope st) [] [] (He.fAd K (x, none)) fd) : FT K mg x st := by
  obtain ⟨fd, F⟩ := F
  exact ⟨_, fd, He.glo_ok X G c, He5.fun_of F⟩
theorem mt_of (c : (He.Fa.meth cn m).ok K = true) (F : ∃ fd, FunD K m qual (defArgs st) (defBody st) (defScope st) [] [] (He.fAd K (cn, some m)) fd) : MT K (He.ga K cn) m qual st := by
  obtain ⟨fd, F⟩ := F
  exact ⟨_, fd, He.meth_ok c, He5.fun_of F⟩
theorem in_of (c : (He.Fa.mkr cn).ok K = true) (F : ∃ fd, FunD K "__init__" qual (defArgs st) (defBody st) (defScope st) [] [] (He.fAd K (cn, some "__init__")) fd) : ∃ f fd, Mk K (He.ga K cn) f ∧ Fun K "__init__" qual st f fd := by
  obtain ⟨fd, F⟩ := F
  exact ⟨_, fd, He.mkr_ok c, He5.fun_of F⟩
theorem isi1_of (hC : mg cn = some (.ref (He.ga K cn))) (e : isB K cn = true) : Isi ⟨mg, K⟩ [cn] := by
  obtain ⟨e1, e⟩ := bsplit e
  obtain ⟨e2, e⟩ := bsplit e
  obtain ⟨e3, e⟩ := bsplit e
  obtain ⟨e4, e⟩ := bsplit e
  obtain ⟨e5, e⟩ := bsplit e
  obtain ⟨e6, e⟩ := bsplit e
  obtain ⟨e7, e⟩ := bsplit e
  obtain ⟨e8, e⟩ := bsplit e
  obtain ⟨e9, e⟩ := bsplit e
  obtain ⟨ea, eb⟩ := bsplit e
  have a := fun t ht => eqB_ok (List.all_eq_true.mp ea t ht)
  have b := fun t ht => eqB_ok (List.all_eq_true.mp eb t ht)
  exact isi1_mk hC (cf_mk e1 e2 e3 (He.eqO_ok e4) (He.eqO_ok e5) (He.eqO_ok e6) (eqB_ok e7) (eqB_ok e8)) (eqB_ok e9) (a "int" (by simp)) (a "str" (by simp)) (a "list" (by simp)) (a "tuple" (by simp)) (a "dict" (by simp)) (a "bool" (by simp)) (a "NoneType" (by simp)) (b "int" (by simp)) (b "str" (by simp)) (b "list" (by simp)) (b "tuple" (by simp)) (b "dict" (by simp)) (b "bool" (by simp))
theorem nf_of {cs : List Str} (hC : ∀ c ∈ cs, mg c = some (.ref (He.ga K c))) (e : nfB K cn cs = true) : NotF ⟨mg, K⟩ cs (He.ga K cn) where
  own n D h hn := by
    obtain ⟨e1, _⟩ := bsplit e
    cases (hC n h).symm.trans hn
    exact List.all_eq_true.mp e1 n h
  blt t := by
    obtain ⟨_, e2⟩ := bsplit e
    have a := fun t ht => List.all_eq_true.mp e2 t ht
    cases t
    · exact a "NoneType" (by simp)
    · exact a "bool" (by simp)
    · exact a "int" (by simp)
    · exact a "str" (by simp)
    · exact a "list" (by simp)
    · exact a "tuple" (by simp)
    · exact a "dict" (by simp)
end
end LW

/-! LwHc: the program's own errors, read by the Hook. -/
namespace LW
open PySem PySem.W L2 PyProof.Rows
open PySem.LeafX PySem.HandSPX
/-! ### what the module's names reach, each address once -/
/-! ### the Hook: defs, facts by names, one Bool more, the own errors -/
theorem andL_ok : ∀ {l : List Bool} {i : Nat} {b : Bool}, andL l = true → l[i]? = some b → b = true
  | x :: l, 0, b, h, e => by
    cases e
    exact (bsplit h).1
  | x :: l, i + 1, b, h, e => andL_ok (bsplit h).2 e
end LW

/-! LwHd: != of lists whose items are compared by the text's own ==; list(d.items()) of any dict. -/
namespace PySem.SeqAt
open AutoSeq1 (wpAny_loadPart')
open MeetsSeq MeetsSeq2 MeetsSeq3 SeqRoads2
section
variable {P : Program} {w : World} {A : Around} {R : Result → Shared → Prop}
end
section
variable {P : Program} {w : World} {A : Around} {E : Value → Shared → Prop} {t : Shared}
end
end PySem.SeqAt
namespace LW
open PySem PySem.Spec L2 PyProof.Rows
section
variable {X : Cx} {n : Nat} {D : Eqv}
end
section
variable {X : Cx} {k : Nat} {C : Addr} {cs : List Str} {g : FM} {cn : Str} {a b : Expr} {pos : Pos} {fa fb : SE}
end
section
variable {s : Sto} {Q : D → Prop} {cn : Str} {g : FM} {xs ys : List D}
end
/-! ### list(d.items()) -/
section
variable {X : Cx} {e : Expr} {te : TE} {p apos cpos pos : Pos}
end
section
variable {mg : Glob} {X : Cx} {e : Expr} {apos cpos pos p : Pos} {fo : SE}
end
section
variable {env : Env} {st : Sto} {QL : List D → Sto → Prop} {fo : SE}
end
end LW

/-! LwHe: == and != of dicts of instances with an own __eq__, the keys in any order. -/
namespace LW
open PySem L2 PyProof.Rows
section
variable {mg : Glob} {X : Cx} {pins : List (Addr × Obj)} {σ : L2.St} {H : Hp} {s : Shared} {N : Prot} {c : List Addr} {st : Sto} {k : Nat} {C : Addr} {cs : List Str} {g : FM} {cn : Str} {E : Value → Shared → Prop}
end
section
variable {X : Cx} {k : Nat} {C : Addr} {cs : List Str} {g : FM} {cn : Str} {a b : Expr} {pos : Pos} {fa fb : SE}
end
end LW

/-! LwJa: walks over dicts whose keys are tuples (printed by mkt.py from LwYc, LwZc). -/
namespace LW
open PySem L2 PyProof.Rows
/-- a heap in which dicts are locked or unlocked -/
structure LkT (N : Prot) (H H' : Hp) : Prop where
  keep : ∀ a o, H a = some o → (∀ kvs, ¬ (o = .dT kvs ∨ ∃ b, o = .frz b (.dT kvs))) → H' a = some o
  dic : ∀ a kvs, Rd H a (.dT kvs) → Rd H' a (.dT kvs)
  ex : ∀ a, N a → H' a = H a
section
variable {mg : Glob} {N : Prot} {c : List Addr} {H H' : Hp} {st : Sto}
theorem LkT.some (l : LkT N H H') {a : Addr} (h : H a ≠ none) : H' a ≠ none := by
  cases e : H a with
  | none => exact absurd e h
  | some o =>
    by_cases q : ∃ kvs, o = .dT kvs ∨ ∃ b, o = .frz b (.dT kvs)
    · obtain ⟨kvs, q⟩ := q
      have : Rd H a (.dT kvs) := q.elim (fun z => .inl (by rw [e, z])) fun ⟨b, z⟩ => .inr ⟨b, by rw [e, z]⟩
      rcases l.dic a kvs this with z | ⟨b, z⟩ <;> rw [z] <;> exact fun y => nomatch y
    · rw [l.keep a o e fun kvs z => q ⟨kvs, z⟩]
      exact fun y => nomatch y
mutual
theorem Rep.lkT {v : V} {d : D} (l : LkT N H H') : Rep mg N c H v d → Rep mg N c H' v d
  | .non => .non
  | .bl b => .bl b
  | .int i => .int i
  | .str x => .str x
  | .ty n => .ty n
  | .cls h => .cls h
  | .tup h r => .tup (l.keep _ _ h fun kvs z => z.elim (fun y => nomatch y) fun ⟨_, y⟩ => nomatch y) (RepL.lkT l r)
  | .lst h n r => .lst (l.keep _ _ h fun kvs z => z.elim (fun y => nomatch y) fun ⟨_, y⟩ => nomatch y) n (RepL.lkT l r)
  | .fro h n r => .fro (l.keep _ _ h fun kvs z => z.elim (fun y => nomatch y) fun ⟨_, y⟩ => nomatch y) n (RepL.lkT l r)
  | .kro h => .kro h
  | .cell h => .cell h
  | .dcl h => .dcl h
  | .ocl h => .ocl h
  | .obj hc h n hn r => .obj hc (l.keep _ _ h fun kvs z => z.elim (fun y => nomatch y) fun ⟨_, y⟩ => nomatch y) n hn (RepL.lkT l r)
  | .dic h n hn r => .dic (l.keep _ _ h fun kvs z => z.elim (fun y => nomatch y) fun ⟨_, y⟩ => nomatch y) n hn (RepL.lkT l r)
  | .dfz h n hn r => .dfz (l.keep _ _ h fun kvs z => z.elim (fun y => nomatch y) fun ⟨_, y⟩ => nomatch y) n hn (RepL.lkT l r)
  | .dit h n hn r => (l.dic _ _ (.inl h)).elim (fun z => .dit z n hn (RepL.lkT l r)) fun ⟨_, z⟩ => .ditz z n hn (RepL.lkT l r)
  | .ditz h n hn r => (l.dic _ _ (.inr ⟨_, h⟩)).elim (fun z => .dit z n hn (RepL.lkT l r)) fun ⟨_, z⟩ => .ditz z n hn (RepL.lkT l r)
  | .err0 hc h n => .err0 hc (l.keep _ _ h fun kvs z => z.elim (fun y => ero_dT y) fun ⟨_, y⟩ => ero_frz y) n
  | .err1 hc h n hd nd r => .err1 hc (l.keep _ _ h fun kvs z => z.elim (fun y => ero_dT y) fun ⟨_, y⟩ => ero_frz y) n (l.keep _ _ hd fun kvs z => z.elim (fun y => nomatch y) fun ⟨_, y⟩ => nomatch y) nd (Rep.lkT l r)
theorem RepL.lkT {vs : List V} {ds : List D} (l : LkT N H H') : RepL mg N c H vs ds → RepL mg N c H' vs ds
  | .nil => .nil
  | .cons h r => .cons (Rep.lkT l h) (RepL.lkT l r)
end
theorem CRep.lkT {o : HO} {xs : List D} (l : LkT N H H') : CRep mg N c H o xs → CRep mg N c H' o xs
  | .l r => .l (r.lkT l)
  | .k r => .k (r.lkT l)
  | .kz r => .kz (r.lkT l)
  | .t r => .t (r.lkT l)
  | .i hc r => .i hc (r.lkT l)
theorem Wd.lkT (l : LkT N H H') (W : Wd mg N c H st) : Wd mg N c H' st :=
  ⟨W.len, fun k a xs h1 h2 => let ⟨vs, e, r⟩ := W.sto k a xs h1 h2; ⟨vs, by rw [l.ex a (W.cn a (List.mem_of_getElem? h1))]; exact e, r.lkT l⟩, W.cn, W.nd, fun a h => l.some (W.trk a h)⟩
theorem lkT_lock {a : Addr} {od : Obj} {kvs : List (List Key × V)} (h : H a = some (.dT kvs)) (n : ¬ N a) : LkT N H (upd H a (.frz od (.dT kvs))) where
  keep := fun b o e q => by
    by_cases z : b = a
    · subst z
      rw [h] at e
      cases e
      exact absurd (.inl rfl) (q kvs)
    · rw [upd_ne z]; exact e
  dic := fun b ks q => by
    by_cases z : b = a
    · subst z
      rcases q with q | ⟨o, q⟩
      · rw [h] at q; cases q; exact .inr ⟨od, upd_same⟩
      · rw [h] at q; cases q
    · unfold Rd
      rw [upd_ne z]; exact q
  ex := fun b z => upd_ne fun y => n (y ▸ z)
theorem lkT_unlock {a : Addr} {od : Obj} {kvs : List (List Key × V)} (h : H a = some (.frz od (.dT kvs))) (n : ¬ N a) : LkT N H (upd H a (.dT kvs)) where
  keep := fun b o e q => by
    by_cases z : b = a
    · subst z
      rw [h] at e
      cases e
      exact absurd (.inr ⟨_, rfl⟩) (q kvs)
    · rw [upd_ne z]; exact e
  dic := fun b ks q => by
    by_cases z : b = a
    · subst z
      rcases q with q | ⟨o, q⟩
      · rw [h] at q; cases q
      · rw [h] at q; cases q; exact .inl upd_same
    · unfold Rd
      rw [upd_ne z]; exact q
  ex := fun b z => upd_ne fun y => n (y ▸ z)
/-- the frame's relation in the locked heap -/
theorem Rel.lockT {E : En} {env : Env} {σ : L2.St} {a : Addr} {od : Obj} {kvs : List (List Key × V)} (R : Rel mg E N c env st σ H) (h : H a = some (.dT kvs)) (n : ¬ N a) : ∃ E', Rel mg E' N c env st σ (upd H a (.frz od (.dT kvs))) := by
  have l : LkT N H (upd H a (.frz od (.dT kvs))) := lkT_lock h n
  have nn : ∀ b, (if b = a then (E.H0 a).map (fun _ => HO.frz od (.dT kvs)) else E.H0 b) = none ↔ E.H0 b = none := fun b => by
    by_cases z : b = a
    · subst z
      rw [if_pos rfl, Option.map_eq_none_iff]
    · rw [if_neg z]
  refine ⟨⟨fun b => if b = a then (E.H0 a).map (fun _ => HO.frz od (.dT kvs)) else E.H0 b, E.N0, E.c0, E.self⟩, ⟨R.len, fun i s e => ?_, fun i s b e ho es => ?_, R.inj, R.wd.lkT l, R.n0, fun b z q => R.t0 b z ((nn b).mp q), fun b o e nc => ?_, R.pre, fun b z => (R.newc b z).imp id fun q => (nn b).mpr q, R.slf⟩⟩
  · have q := R.sl i s e
    have own : ∀ b, s.isOwn = true → σ[i]?.join = some (.ref b) → b ≠ a := fun b ho es z => n (z ▸ (R.own i s b e ho (join_some es)).1)
    cases s with
    | un => trivial
    | val d => obtain ⟨v, ev, rv⟩ := q; exact ⟨v, ev, rv.lkT l⟩
    | own ys => obtain ⟨b, us, ev, hb, rv⟩ := q; exact ⟨b, us, ev, by rw [upd_ne (own b rfl ev)]; exact hb, rv.lkT l⟩
    | ownI cn ns ds => obtain ⟨b, C, dx, fs, ev, hc, hb, hn, rv⟩ := q; exact ⟨b, C, dx, fs, ev, hc, by rw [upd_ne (own b rfl ev)]; exact hb, hn, rv.lkT l⟩
    | ownD ks ds => obtain ⟨b, kvs', ev, hb, hn, rv⟩ := q; exact ⟨b, kvs', ev, by rw [upd_ne (own b rfl ev)]; exact hb, hn, rv.lkT l⟩
    | ownT ks ds => obtain ⟨b, kvs', ev, hb, hn, rv⟩ := q; exact ⟨b, kvs', ev, by rw [upd_ne (own b rfl ev)]; exact hb, hn, rv.lkT l⟩
  · obtain ⟨z1, z2, z3⟩ := R.own i s b e ho es
    exact ⟨z1, z2, (nn b).mpr z3⟩
  · by_cases z : b = a
    · subst z
      have e : (if b = b then (E.H0 b).map (fun _ => HO.frz od (.dT kvs)) else E.H0 b) = some o := e
      rw [if_pos rfl] at e
      obtain ⟨_, _, e⟩ := Option.map_eq_some_iff.mp e
      rw [← e]
      exact upd_same
    · have e : (if b = a then (E.H0 a).map (fun _ => HO.frz od (.dT kvs)) else E.H0 b) = some o := e
      rw [if_neg z] at e
      rw [upd_ne z]
      exact R.base b o e nc
end
/-! ### walks over the keys -/
abbrev keyT (k : List Key) : D := .tup (k.map keyV)
def iKyT (i : Nat) : Fx Src := fun env st => match env[i]? with
  | some (.val (.dit ks _)) => some ((ks.map keyT, noChk), st)
  | _ => none
def tIKT (mg : Glob) (i : Nat) : TI := fun σ H R => tI mg (iKyT i) σ H R ∧ ∃ a o kvs, σ[i]? = some (some (.ref a)) ∧ H a = some (.frz o (.dT kvs))
theorem repL_keys {mg : Glob} {N : Prot} {c : List Addr} {H : Hp} : ∀ {k : List Key}, RepL mg N c H (k.map kV) (k.map keyV)
  | [] => .nil
  | _ :: _ => .cons Rep.key repL_keys
theorem il_keysT {mg : Glob} {N : Prot} {c : List Addr} {H : Hp} {a : Addr} {o : Obj} {kvs : List (List Key × V)} (ha : H a = some (.frz o (.dT kvs))) (n : ¬ N a) : ItL mg (Itkt a o kvs) ((kvs.map (·.1)).map keyT, noChk) N c H where
  stop := fun N' c' H' st x W _ => by
    refine ⟨x.keep a _ ha n, ?_⟩
    show kvs.length ≤ ((kvs.map (·.1)).map keyT).length
    rw [List.length_map, List.length_map]
    exact Nat.le_refl _
  go := fun i N' c' H' st hi x W _ => by
    refine ⟨x.keep a _ ha n, ?_⟩
    have : i < ((kvs.map (·.1)).map keyT).length := hi
    rwa [List.length_map, List.length_map] at this
  yld := fun i N' c' H' st v H2 hi x W _ y => by
    obtain ⟨rfl, k, w, q, hk, rfl, hq⟩ := y
    refine ⟨keyT k, ?_, Ex.refl, W, .tup hq repL_keys⟩
    show ((kvs.map (·.1)).map keyT)[i]? = _
    rw [List.getElem?_map, List.getElem?_map, hk]
    rfl
section
variable {mg : Glob} {X : Cx} {tg : Expr} {pos : Pos}
theorem i_keysT (i : Nat) {x : Str} {p : Pos} (hN : X.N[i]? = some x := by rfl) (hv : Vis X.env.scope x := by first | exact Or.inl rfl | exact Or.inr (Or.inl rfl) | exact Or.inr (Or.inr rfl)) (hd : (x == ("__debug__" : Str)) = false := by decide)
    (hcd : (x == ("__classdict__" : Str)) = false := by decide) : PI X tg (.Name x p) (tIKT mg i) := pi_weak (pi_keys (pe_var hN hv hd hcd)) fun σ H R ⟨⟨E, N, c, env, st, xs, st', Rl, q, k⟩, a, o, kvs, hs, ha⟩ => by
  unfold iKyT at q
  split at q
  · rename_i ks ds he
    cases q
    obtain ⟨v, ev, rv⟩ := Rl.sl i _ he
    have ev := join_some ev
    rw [hs] at ev
    cases ev
    refine ⟨.ref a, hs, a, o, rfl, .inr ⟨kvs, ha, ?_⟩⟩
    cases rv with
    | dit h _ _ _ => rw [ha] at h; cases h
    | ditz h n hn r =>
      rw [ha] at h
      cases h
      subst hn
      exact k _ N c H Ex.refl Rl.wd (il_keysT ha n)
  · cases q
variable {eltE : Expr} {ifs : List Expr} {scope : Scope} {own : List (Str × Nat)} {asg : D → Env → Option Env} {cond : SB} {elt : SE} {g : TG} {is : List Nat}
theorem r_lcKT (hg : GOk mg g asg is) (hv : ∀ i ∈ is, i ∈ own.map (·.2)) {i : Nat} {σ : L2.St} {H : Hp} {Q : VK} (h : tL mg (lComp (iKyT i) asg cond elt (own.map (·.2))) σ H Q) :
    tLockE (tLc (tIKT mg i) g (tT mg cond) (tE mg elt) (own.map (·.2))) σ H Q ∨ tLc (tIKT mg i) g (tT mg cond) (tE mg elt) (own.map (·.2)) σ H Q := by
  obtain ⟨E, N, c, env, st, d, st', R, q, k⟩ := h
  have q0 := q
  unfold lComp iKyT at q
  split at q
  · cases q
  · rename_i src s1 q1
    split at q1
    · rename_i ks ds he
      obtain ⟨v, ev, rv⟩ := R.sl i _ he
      have ev := join_some ev
      cases rv with
      | ditz ha n hn r => exact .inr ⟨r_lc (fi := iKyT i) hg hv ⟨E, N, c, env, st, d, st', R, q0, k⟩, _, _, _, ev, ha⟩
      | dit ha n hn r =>
        rename_i a kvs _
        refine .inl ⟨a, .dT kvs, ha, trivial, fun od => ⟨?_, a, od, kvs, ev, upd_same⟩⟩
        obtain ⟨E', R'⟩ := R.lockT (od := od) ha n
        show tLc (tI mg (iKyT i)) g (tT mg cond) (tE mg elt) (own.map (·.2)) σ _ (fun v H' => H' a = some (.frz od (.dT kvs)) ∧ Q v (upd H' a (.dT kvs)))
        refine r_lc (fi := iKyT i) hg hv ⟨E', N, c, env, st, d, st', R', q0, fun v N' c' H' x W' rn => ?_⟩
        have nc : a ∉ c := fun z => n (R.wd.cn a z)
        have hf : H' a = some (.frz od (.dT kvs)) := x.keep a _ upd_same nc
        have n' : ¬ N' a := fun z => (x.new a z).elim n fun e => by rw [upd_same] at e; cases e
        have l : LkT N' H' (upd H' a (.dT kvs)) := lkT_unlock hf n'
        refine ⟨hf, k v N' c' (upd H' a (.dT kvs)) ⟨fun b o e nb => ?_, fun b z => ?_, x.mono, x.pre, fun b z => ?_⟩ (W'.lkT l) ?_⟩
        · by_cases z : b = a
          · subst z
            rw [ha] at e
            cases e
            exact upd_same
          · rw [upd_ne z]
            exact x.keep b o (by rw [upd_ne z]; exact e) nb
        · rcases x.new b z with y | y
          · exact .inl y
          · by_cases w : b = a
            · subst w; rw [upd_same] at y; cases y
            · rw [upd_ne w] at y; exact .inr y
        · rcases x.newc b z with y | y
          · exact .inl y
          · by_cases w : b = a
            · subst w; rw [upd_same] at y; cases y
            · rw [upd_ne w] at y; exact .inr y
        · obtain ⟨p, vs, rfl, hp, np, nc', hv', rr⟩ := rn
          have hpa : p ≠ a := fun z => by rw [z, hf] at hv'; cases hv'
          exact ⟨p, vs, rfl, by rw [upd_ne hpa] at hp; exact hp, np, nc', by rw [upd_ne hpa]; exact hv', rr.lkT l⟩
    · cases q1
/-- [elt for key in d if ..] -/
theorem d_lcKT (i : Nat) {x : Str} {p : Pos} (hc : X.calm = true) (hN : X.N.Nodup) (ok : BlkOk X.N X.env.scope scope own)
    (hgg : ∀ (s : Shared) (H : Hp) (C : Addr) (cl : List (Str × Addr)) (fp : List Addr), PG (X.blk s H scope (compEnvC scope cl C X.env) fp) tg g) (hg : GOk mg g asg is) (hv : ∀ i ∈ is, i ∈ own.map (·.2))
    (ht : ∀ (s : Shared) (H : Hp) (C : Addr) (cl : List (Str × Addr)) (fp : List Addr), PTs (X.blk s H scope (compEnvC scope cl C X.env) fp) ifs (tT mg cond))
    (he : ∀ (s : Shared) (H : Hp) (C : Addr) (cl : List (Str × Addr)) (fp : List Addr), PE (X.blk s H scope (compEnvC scope cl C X.env) fp) eltE (tE mg elt))
    (hx : X.N[i]? = some x := by rfl) (hvs : Vis X.env.scope x := by first | exact Or.inl rfl | exact Or.inr (Or.inl rfl) | exact Or.inr (Or.inr rfl)) (hd : (x == ("__debug__" : Str)) = false := by decide)
    (hcd : (x == ("__classdict__" : Str)) = false := by decide) (hs : ∀ y, foldedSetIterable (.Name x p) X.env y = pure y := by intro _; rfl) :
    PE X (.ListComp eltE [⟨tg, .Name x p, ifs, 0⟩] scope pos) (tL mg (lComp (iKyT i) asg cond elt (own.map (·.2)))) :=
  pe_weak (pe_lockOr (pe_lc hc hN (i_keysT i hx hvs hd hcd) ok hgg ht he hs)) fun _ _ _ h => r_lcKT hg hv h
end
section
variable {mg : Glob} {N N' : Prot} {c c' : List Addr} {H H' : Hp} {st st' : Sto} {E : En} {env env' : Env} {σ σ' : L2.St} {a : Addr} {od : Obj} {kvs : List (List Key × V)}
theorem Rel.lockST (R : Rel mg E N c env st σ H) (h : H a = some (.dT kvs)) (n : ¬ N a) : Rel mg (E.lk a (.frz od (.dT kvs))) N c env st σ (upd H a (.frz od (.dT kvs))) := by
  have l : LkT N H (upd H a (.frz od (.dT kvs))) := lkT_lock h n
  refine ⟨R.len, fun i s e => ?_, fun i s b e ho es => ?_, R.inj, R.wd.lkT l, R.n0, fun b z q => ?_, fun b o e nc => ?_, R.pre, fun b z => ?_, R.slf⟩
  · have q := R.sl i s e
    have own : ∀ b, s.isOwn = true → σ[i]?.join = some (.ref b) → b ≠ a := fun b ho es z => n (z ▸ (R.own i s b e ho (join_some es)).1)
    cases s with
    | un => trivial
    | val d => obtain ⟨v, ev, rv⟩ := q; exact ⟨v, ev, rv.lkT l⟩
    | own ys => obtain ⟨b, us, ev, hb, rv⟩ := q; exact ⟨b, us, ev, by rw [upd_ne (own b rfl ev)]; exact hb, rv.lkT l⟩
    | ownI cn ns ds => obtain ⟨b, C, dx, fs, ev, hc, hb, hn, rv⟩ := q; exact ⟨b, C, dx, fs, ev, hc, by rw [upd_ne (own b rfl ev)]; exact hb, hn, rv.lkT l⟩
    | ownD ks ds => obtain ⟨b, kvs', ev, hb, hn, rv⟩ := q; exact ⟨b, kvs', ev, by rw [upd_ne (own b rfl ev)]; exact hb, hn, rv.lkT l⟩
    | ownT ks ds => obtain ⟨b, kvs', ev, hb, hn, rv⟩ := q; exact ⟨b, kvs', ev, by rw [upd_ne (own b rfl ev)]; exact hb, hn, rv.lkT l⟩
  · obtain ⟨z1, z2, z3⟩ := R.own i s b e ho es
    have ne : b ≠ a := fun z => n (z ▸ z1)
    exact ⟨z1, z2, by show upd E.H0 a _ b = none; rw [upd_ne ne]; exact z3⟩
  · have q : upd E.H0 a _ b = none := q
    by_cases z' : b = a
    · subst z'; rw [upd_same] at q; cases q
    · rw [upd_ne z'] at q; exact R.t0 b z q
  · have e : upd E.H0 a _ b = some o := e
    by_cases z : b = a
    · subst z
      rw [upd_same] at e ⊢
      exact e
    · rw [upd_ne z] at e ⊢
      exact R.base b o e nc
  · have nb : b ≠ a := fun q => n (q ▸ R.wd.cn b z)
    show _ ∨ upd E.H0 a _ b = none
    rw [upd_ne nb]
    exact R.newc b z
/-- what the entry's heap says of a dict that stands here -/
theorem Rel.at0T (R : Rel mg E N c env st σ H) (h : H a = some (.dT kvs)) (n : ¬ N a) {o : HO} (e : E.H0 a = some o) : o = .dT kvs := by
  have := R.base a o e fun z => n (R.wd.cn a z)
  rw [h] at this
  cases this
  rfl
theorem Rel.unlockST (R : Rel mg E N c env st σ H) (h : H a = some (.dT kvs)) (n : ¬ N a) (R' : Rel mg (E.lk a (.frz od (.dT kvs))) N' c' env' st' σ' H') (hf : H' a = some (.frz od (.dT kvs))) (n' : ¬ N' a) : Rel mg E N' c' env' st' σ' (upd H' a (.dT kvs)) := by
  have l : LkT N' H' (upd H' a (.dT kvs)) := lkT_unlock hf n'
  refine ⟨R'.len, fun i s e => ?_, fun i s b e ho es => ?_, R'.inj, R'.wd.lkT l, R'.n0, R.t0, fun b o e nc => ?_, R'.pre, fun b z => ?_, R'.slf⟩
  · have q := R'.sl i s e
    have own : ∀ b, s.isOwn = true → σ'[i]?.join = some (.ref b) → b ≠ a := fun b ho es z => n' (z ▸ (R'.own i s b e ho (join_some es)).1)
    cases s with
    | un => trivial
    | val d => obtain ⟨v, ev, rv⟩ := q; exact ⟨v, ev, rv.lkT l⟩
    | own ys => obtain ⟨b, us, ev, hb, rv⟩ := q; exact ⟨b, us, ev, by rw [upd_ne (own b rfl ev)]; exact hb, rv.lkT l⟩
    | ownI cn ns ds => obtain ⟨b, C, dx, fs, ev, hc, hb, hn, rv⟩ := q; exact ⟨b, C, dx, fs, ev, hc, by rw [upd_ne (own b rfl ev)]; exact hb, hn, rv.lkT l⟩
    | ownD ks ds => obtain ⟨b, kvs', ev, hb, hn, rv⟩ := q; exact ⟨b, kvs', ev, by rw [upd_ne (own b rfl ev)]; exact hb, hn, rv.lkT l⟩
    | ownT ks ds => obtain ⟨b, kvs', ev, hb, hn, rv⟩ := q; exact ⟨b, kvs', ev, by rw [upd_ne (own b rfl ev)]; exact hb, hn, rv.lkT l⟩
  · obtain ⟨z1, z2, z3⟩ := R'.own i s b e ho es
    have ne : b ≠ a := fun z => n' (z ▸ z1)
    have z3 : upd E.H0 a _ b = none := z3
    rw [upd_ne ne] at z3
    exact ⟨z1, z2, z3⟩
  · by_cases z : b = a
    · subst z
      rw [upd_same, R.at0T h n e]
    · rw [upd_ne z]
      refine R'.base b o ?_ nc
      show upd E.H0 a _ b = some o
      rw [upd_ne z]
      exact e
  · have nb : b ≠ a := fun q => n' (q ▸ R'.wd.cn b z)
    have := R'.newc b z
    have this : _ ∨ upd E.H0 a _ b = none := this
    rw [upd_ne nb] at this
    exact this
theorem Sx.unlockT (ha : H a = some (.dT kvs)) (n : ¬ N a) (x : Sx N c (upd H a (.frz od (.dT kvs))) N' c' H') : Sx N c H N' c' (upd H' a (.dT kvs)) := by
  refine ⟨fun b o e nb => ?_, fun b z => ?_, x.pre, fun b z => ?_, fun b e => ?_, fun b us e => ?_⟩
  · by_cases z : b = a
    · subst z
      rw [ha] at e
      cases e
      exact upd_same
    · rw [upd_ne z]
      exact x.keep b o (by rw [upd_ne z]; exact e) nb
  · rcases x.new b z with y | y
    · exact .inl y
    · by_cases w : b = a
      · subst w; rw [upd_same] at y; cases y
      · rw [upd_ne w] at y; exact .inr y
  · rcases x.newc b z with y | y
    · exact .inl y
    · by_cases w : b = a
      · subst w; rw [upd_same] at y; cases y
      · rw [upd_ne w] at y; exact .inr y
  · by_cases w : b = a
    · subst w; rw [upd_same] at e; cases e
    · rw [upd_ne w] at e
      have := x.trk b e
      rwa [upd_ne w] at this
  · have z : b ≠ a := fun z => by rw [z, ha] at e; cases e
    rw [upd_ne z]
    exact x.tup b us (by rw [upd_ne z]; exact e)
theorem Fin.unlockT {v : V} {d : D} (R : Rel mg E N c env st σ H) (h : H a = some (.dT kvs)) (n : ¬ N a) (F : Fin mg (E.lk a (.frz od (.dT kvs))) c' st' H' v d) : H' a = some (.frz od (.dT kvs)) ∧ Fin mg E c' st' (upd H' a (.dT kvs)) v d := by
  have nc : a ∉ c' := fun z => by
    rcases F.newc a z with q | q
    · obtain ⟨k, hk⟩ := List.getElem?_of_mem (show a ∈ E.c0 from q)
      exact n (R.wd.cn a (List.mem_of_getElem? (R.pre k a hk)))
    · have q : upd E.H0 a _ a = none := q
      rw [upd_same] at q; cases q
  have hf : H' a = some (.frz od (.dT kvs)) := F.base a _ upd_same nc
  have n' : ¬ (E.N0 a ∨ a ∈ c') := fun z => z.elim (fun q => n (R.n0 a q)) nc
  have l : LkT (fun a => E.N0 a ∨ a ∈ c') H' (upd H' a (.dT kvs)) := lkT_unlock hf n'
  refine ⟨hf, F.wd.lkT l, F.rep.lkT l, fun b o e nb => ?_, F.pre, fun b z => ?_⟩
  · by_cases z : b = a
    · subst z
      rw [upd_same, R.at0T h n e]
    · rw [upd_ne z]
      refine F.base b o ?_ nb
      show upd E.H0 a _ b = some o
      rw [upd_ne z]
      exact e
  · have nb : b ≠ a := fun q => nc (q ▸ z)
    have this : _ ∨ upd E.H0 a _ b = none := F.newc b z
    rw [upd_ne nb] at this
    exact this
end
section
variable {mg : Glob} {X : Cx} {tg : Expr} {body : List Stmt} {pos : Pos} {fb : SS} {asg : D → Env → Option Env} {g : TG} {is : List Nat}
theorem r_forKT {i : Nat} (hg : GOk mg g asg is) {De : Ends} {σ : L2.St} {H : Hp} (h : tS mg (sFor (iKyT i) asg fb) De σ H) : tLock (tFor (tIKT mg i) g (tS mg fb)) De σ H ∨ tFor (tIKT mg i) g (tS mg fb) De σ H := by
  have h0 := h
  obtain ⟨E, N, c, env, st, o, st', R, q, p⟩ := tS_def.mp h
  have q0 := q
  unfold sFor iKyT at q
  split at q
  · cases q
  · rename_i src s1 q1
    split at q1
    · rename_i ks ds he
      obtain ⟨v, ev, rv⟩ := R.sl i _ he
      have ev := join_some ev
      cases rv with
      | ditz ha n hn r => exact .inr ⟨r_for (fi := iKyT i) hg h0, _, _, _, ev, ha⟩
      | dit ha n hn r =>
        rename_i a kvs _
        refine .inl ⟨a, .dT kvs, ha, trivial, fun od => ⟨r_for (fi := iKyT i) hg ?_, a, od, kvs, ev, upd_same⟩⟩
        have R' := R.lockST (od := od) ha n
        have step : ∀ N' c' H', Sx N c (upd H a (.frz od (.dT kvs))) N' c' H' → H' a = some (.frz od (.dT kvs)) ∧ ¬ N' a := fun N' c' H' x => ⟨x.keep a _ upd_same n, x.nn upd_same n⟩
        refine tS_def.mpr ⟨_, N, c, env, st, o, st', R', q0, ?_⟩
        cases o with
        | nx e => exact fun N' c' σ' H' x R2 => ⟨(step _ _ _ x).1, p N' c' σ' _ (Sx.unlockT ha n x) (R.unlockST ha n R2 (step _ _ _ x).1 (step _ _ _ x).2)⟩
        | bk e => exact fun N' c' σ' H' x R2 => ⟨(step _ _ _ x).1, p N' c' σ' _ (Sx.unlockT ha n x) (R.unlockST ha n R2 (step _ _ _ x).1 (step _ _ _ x).2)⟩
        | ct e => exact fun N' c' σ' H' x R2 => ⟨(step _ _ _ x).1, p N' c' σ' _ (Sx.unlockT ha n x) (R.unlockST ha n R2 (step _ _ _ x).1 (step _ _ _ x).2)⟩
        | rt d =>
          intro c' H' v F
          obtain ⟨hf, F'⟩ := F.unlockT R ha n
          exact ⟨hf, p c' _ v F'⟩
    · cases q1
/-- for name in d -/
theorem s_forKT (i : Nat) {x : Str} {p : Pos} (hp : PassesOwn (model X.prog X.w) X.A X.env X.xe) (hc : X.calm = true) (hgg : PG X tg g) (hg : GOk mg g asg is) (hb : PSs X body (tS mg fb)) (hN : X.N[i]? = some x := by rfl) (hv : Vis X.env.scope x := by first | exact Or.inl rfl | exact Or.inr (Or.inl rfl) | exact Or.inr (Or.inr rfl)) (hd : (x == ("__debug__" : Str)) = false := by decide)
    (hcd : (x == ("__classdict__" : Str)) = false := by decide) (hs : ∀ y, foldedSetIterable (.Name x p) X.env y = pure y := by intro _; rfl) :
    PS X (.For tg (.Name x p) body [] pos) (tS mg (sFor (iKyT i) asg fb)) := ps_weak (ps_lockOr (ps_for hp hc (i_keysT i hN hv hd hcd) hgg hb hs)) fun De σ H h => r_forKT hg h
end
end LW

/-! LwJb: dicts whose keys are tuples: read, written, the frame's own (printed by mkt2.py in part). -/
namespace LW
open PySem L2 PyProof.Rows
abbrev DKT : Type := List (List Key) × List D
def memT (k : List Key) (ks : List (List Key)) : Bool := ks.any fun y => decide (y = k)
def getDT : List (List Key) → List D → List Key → Option D
  | k :: ks, d :: ds, x => if k = x then some d else getDT ks ds x
  | _, _, _ => none
def putVT : List (List Key) → List D → List Key → D → List D
  | k :: ks, d :: ds, x, y => (if k = x then y else d) :: putVT ks ds x y
  | _, _, _, _ => []
def putKDT (p : DKT) (x : List Key) (y : D) : DKT := if memT x p.1 = true then (p.1, putVT p.1 p.2 x y) else (p.1 ++ [x], p.2 ++ [y])
section
variable {mg : Glob} {N : Prot} {c : List Addr} {H : Hp} {st : Sto} {u : V} {x : D}
theorem getT_rel : ∀ {kvs : List (List Key × V)} {ds : List D} {k : List Key} {d : D}, RepL mg N c H (kvs.map (·.2)) ds → getDT (kvs.map (·.1)) ds k = some d → ∃ v, valV kvs k = some v ∧ Rep mg N c H v d
  | [], _, _, _, _, e => by cases e
  | kv :: r, _, k, d, .cons h t, e => by
    rw [List.map_cons] at e
    unfold getDT at e
    split at e
    · rename_i hk
      cases e
      exact ⟨kv.2, valV_pos hk, h⟩
    · rename_i hk
      obtain ⟨v, e1, r1⟩ := getT_rel t e
      exact ⟨v, by rw [valV_neg hk]; exact e1, r1⟩
theorem anyT_mem {kvs : List (List Key × V)} {k : List Key} : (kvs.any fun kv => decide (kv.1 = k)) = memT k (kvs.map (·.1)) := by
  unfold memT
  rw [List.any_map]
  rfl
theorem putVT_rel {v : V} {d : D} {k : List Key} (h : Rep mg N c H v d) : ∀ {kvs : List (List Key × V)} {ds : List D}, RepL mg N c H (kvs.map (·.2)) ds → RepL mg N c H ((kvs.map (fun kv => if kv.1 = k then (kv.1, v) else kv)).map (·.2)) (putVT (kvs.map (·.1)) ds k d)
  | [], _, .nil => .nil
  | kv :: r, _, .cons q t => by
    rw [List.map_cons, List.map_cons, List.map_cons]
    unfold putVT
    by_cases e : kv.1 = k
    · rw [if_pos e, if_pos e]
      exact .cons h (putVT_rel h t)
    · rw [if_neg e, if_neg e]
      exact .cons q (putVT_rel h t)
theorem putT_rel {v : V} {d : D} {k : List Key} {kvs : List (List Key × V)} {ds : List D} (h : Rep mg N c H v d) (r : RepL mg N c H (kvs.map (·.2)) ds) : (putK kvs k v).map (·.1) = (putKDT (kvs.map (·.1), ds) k d).1 ∧ RepL mg N c H ((putK kvs k v).map (·.2)) (putKDT (kvs.map (·.1), ds) k d).2 := by
  unfold putK putKDT
  rw [anyT_mem]
  by_cases e : memT k (kvs.map (·.1)) = true
  · rw [if_pos e, if_pos e]
    refine ⟨?_, putVT_rel h r⟩
    rw [List.map_map]
    refine List.map_congr_left fun kv _ => ?_
    show (if kv.1 = k then (kv.1, v) else kv).1 = kv.1
    split <;> rfl
  · rw [if_neg e, if_neg e]
    exact ⟨by rw [List.map_append]; rfl, by rw [List.map_append]; exact r.append (.cons h .nil)⟩
def keysD : D → Option (List Key)
  | .tup xs => mapO keyD xs
  | _ => none
theorem mapO_key : ∀ {xs : List D} {k : List Key}, mapO keyD xs = some k → xs = k.map keyV
  | [], k, e => by cases e; rfl
  | x :: r, k, e => by
    unfold mapO at e
    split at e
    · cases e
    · rename_i y hy
      split at e
      · cases e
      · rename_i ys hys
        cases e
        rw [List.map_cons, keyD_eq hy, mapO_key hys]
theorem keysD_eq {d : D} {k : List Key} (h : keysD d = some k) : d = keyT k := by
  unfold keysD at h
  split at h
  · rw [mapO_key h]
  · cases h
theorem RepL.keys : ∀ {k : List Key} {vs : List V}, RepL mg N c H vs (k.map keyV) → vs = k.map kV
  | [], _, .nil => rfl
  | x :: r, _, .cons h t => by
    rw [List.map_cons, RepL.keys t, RepT.key (.inl h) keyD_V]
theorem RepT.keysT {k : List Key} (h : RepT mg N c H u x) (e : keysD x = some k) : ∃ b, u = .ref b ∧ H b = some (.tup (k.map kV)) := by
  have := keysD_eq e
  subst this
  rcases h with h | ⟨_, _, _, _, z, _⟩
  · cases h with
    | tup hb r =>
      rw [RepL.keys r] at hb
      exact ⟨_, rfl, hb⟩
  · cases z
theorem RepT.dit {ks : List (List Key)} {ds : List D} (h : RepT mg N c H u (.dit ks ds)) : ∃ a kvs, u = .ref a ∧ Rd H a (.dT kvs) ∧ kvs.map (·.1) = ks ∧ RepL mg N c H (kvs.map (·.2)) ds := by
  rcases h with h | ⟨_, _, _, _, e, _⟩
  · cases h with
    | dit h n hn r => exact ⟨_, _, rfl, .inl h, hn, r⟩
    | ditz h n hn r => exact ⟨_, _, rfl, .inr ⟨_, h⟩, hn, r⟩
  · cases e
end
/-! ### d[k] -/
def oDxT : D → D → Sto → Option D := fun x y _ => match x with
  | .dit ks ds => (match keysD y with
    | some k => getDT ks ds k
    | none => none)
  | _ => none
theorem ok_dxT {mg : Glob} : OpOk mg (RE mg) (fun x y H Q => ∃ a v, x = .ref a ∧ DGet H a y (some v) ∧ Q v H) oDxT := by
  intro N c H st u v x y d Q W p1 p2 e k
  unfold oDxT at e
  split at e
  · rename_i ks ds
    split at e
    · rename_i kk hk
      obtain ⟨a, kvs, rfl, ha, hn, r⟩ := RepT.dit p1
      rw [← hn] at e
      obtain ⟨w, hw, rw_⟩ := getT_rel r e
      obtain ⟨b, rfl, hb⟩ := RepT.keysT p2 hk
      exact ⟨a, w, rfl, .inr ⟨kvs, kk, b, ha, rfl, hb, hw.symm⟩, k w N c H Ex.refl W rw_⟩
    · cases e
  · cases e
section
variable {mg : Glob} {X : Cx} {a b : Expr} {pos : Pos} {fa fb : SE}
theorem d_dxT (hu : X.A.units + 1 < cLine) (ha : PE X a (tP mg fa)) (hb : PE X b (tP mg fb)) (hs : NoSl b := by exact fun _ _ => rfl) : PE X (.Subscript a b pos) (tE mg (eOp oDxT fa fb)) := pe_weak (pe_dget hu ha hb hs) fun _ _ _ h => r_op ok_dxT back_E h
end
/-! ### the frame's own -/
section
variable {mg : Glob} {E : En} {N N' : Prot} {c c' : List Addr} {H H' : Hp} {st st' : Sto} {env : Env} {σ : L2.St}
theorem Rel.setOwnT {i : Nat} {p : Addr} {kvs : List (List Key × V)} {ks : List (List Key)} {xs : List D} (R : Rel mg E N c env st σ H) (hp : H p = some (.dT kvs)) (np : N p) (nc : p ∉ c) (h0 : E.H0 p = none) (hm : kvs.map (·.1) = ks) (r : RepL mg N c H (kvs.map (·.2)) xs)
    (nw : ∀ (j : Nat) s, env[j]? = some s → s.isOwn = true → σ[j]? ≠ some (some (.ref p))) : Rel mg E N c (env.set i (.ownT ks xs)) st (σ.set i (some (.ref p))) H where
  len := by rw [List.length_set, List.length_set]; exact R.len
  sl := fun j s' e => by
    rcases get_set e with ⟨rfl, rfl⟩ | ⟨ne, e⟩
    · have hl : i < σ.length := by
        rw [R.len]
        have := (List.getElem?_eq_some_iff.mp e).1
        simpa using this
      rw [List.getElem?_set_self hl]
      exact ⟨p, kvs, rfl, hp, hm, r⟩
    · rw [List.getElem?_set_ne ne]
      exact R.sl j s' e
  own := fun j s' a e ho es => by
    rcases get_set e with ⟨rfl, rfl⟩ | ⟨ne, e⟩
    · have hl : i < σ.length := by
        rw [R.len]
        have := (List.getElem?_eq_some_iff.mp e).1
        simpa using this
      rw [List.getElem?_set_self hl] at es
      cases es
      exact ⟨np, nc, h0⟩
    · rw [List.getElem?_set_ne ne] at es
      exact R.own j s' a e ho es
  inj := fun j k s1 s2 a e1 o1 e2 o2 h1 h2 => by
    have hl : ∀ {s : Sl}, (env.set i (.ownT ks xs))[i]? = some s → i < σ.length := fun {s} e => by
      rw [R.len]
      have := (List.getElem?_eq_some_iff.mp e).1
      simpa using this
    rcases get_set e1 with ⟨rfl, rfl⟩ | ⟨n1, e1'⟩
    · rcases get_set e2 with ⟨rfl, rfl⟩ | ⟨n2, e2'⟩
      · rfl
      · rw [List.getElem?_set_self (hl e1)] at h1
        cases h1
        rw [List.getElem?_set_ne n2] at h2
        exact absurd h2 (nw k s2 e2' o2)
    · rcases get_set e2 with ⟨rfl, rfl⟩ | ⟨n2, e2'⟩
      · rw [List.getElem?_set_self (hl e2)] at h2
        cases h2
        rw [List.getElem?_set_ne n1] at h1
        exact absurd h1 (nw j s1 e1' o1)
      · rw [List.getElem?_set_ne n1] at h1
        rw [List.getElem?_set_ne n2] at h2
        exact R.inj j k s1 s2 a e1' o1 e2' o2 h1 h2
  wd := R.wd
  n0 := R.n0
  t0 := R.t0
  base := R.base
  pre := R.pre
  newc := R.newc
  slf := fun j cn ns ds a e es => by
    rcases get_set e with ⟨rfl, e2⟩ | ⟨ne, e⟩
    · cases e2
    · rw [List.getElem?_set_ne ne] at es
      exact R.slf j cn ns ds a e es
/-- an address that was new ahead of a step is new at the entry, and no slot's own -/
theorem Rel.writeT {i : Nat} {a : Addr} {kvs' : List (List Key × V)} {ks ks' : List (List Key)} {xs xs' : List D} (R : Rel mg E N c env st σ H) (he : env[i]? = some (.ownT ks xs)) (hs : σ[i]? = some (some (.ref a))) (hm : kvs'.map (·.1) = ks') (r : RepL mg N c H (kvs'.map (·.2)) xs') :
    Rel mg E N c (env.set i (.ownT ks' xs')) st σ (upd H a (.dT kvs')) ∧ Sx N c H N c (upd H a (.dT kvs')) := by
  obtain ⟨na, nc, n0⟩ := R.own i _ a he rfl hs
  obtain ⟨b, us, eb, hb, hmb, rb⟩ := R.sl i _ he
  rw [hs] at eb
  cases eb
  have keep : ∀ b o, H b = some o → ¬ N b → (upd H a (.dT kvs')) b = some o := fun b o e n => by
    rw [upd_ne (show b ≠ a from fun z => n (z ▸ na))]; exact e
  have tk : ∀ b, (upd H a (.dT kvs')) b = none → H b = none := fun b e => by
    by_cases q : b = a
    · rw [q, upd_same] at e; cases e
    · rw [upd_ne q] at e; exact e
  have sx : Sx N c H N c (upd H a (.dT kvs')) := ⟨keep, fun _ z => .inl z, fun _ _ z => z, fun _ z => .inl z, tk, fun b us e => by rw [upd_ne (fun z => R.ownNT he rfl hs us (by rw [← z]; exact e))]; exact e⟩
  have il : i < σ.length := (List.getElem?_eq_some_iff.mp hs).1
  have ne_of_own : ∀ (j : Nat) s b, i ≠ j → env[j]? = some s → s.isOwn = true → σ[j]? = some (some (.ref b)) → b ≠ a := fun j s b ne e ho z q => by
    subst q
    exact ne (R.inj i j _ s b he rfl e ho hs z)
  refine ⟨⟨by rw [List.length_set]; exact R.len, fun j s' e => ?_, fun j s' b e ho es => ?_, fun j k s1 s2 b e1 o1 e2 o2 h1 h2 => ?_, ?_, R.n0, R.t0, fun b o e n => ?_, R.pre, R.newc, fun j cn ns ds b e es => (get_set e).elim (fun z => nomatch z.2) fun z => R.slf j cn ns ds b z.2 es⟩, sx⟩
  · rcases get_set e with ⟨rfl, rfl⟩ | ⟨ne, e⟩
    · rw [hs]
      exact ⟨a, kvs', rfl, upd_same, hm, r.tr sx.tr⟩
    · have q := R.sl j s' e
      cases s' with
      | un => trivial
      | val d => obtain ⟨v, ev, rv⟩ := q; exact ⟨v, ev, rv.tr sx.tr⟩
      | own ys => obtain ⟨b, us', ev, hb', rv⟩ := q; exact ⟨b, us', ev, by rw [upd_ne (ne_of_own j _ b ne e rfl (join_some ev))]; exact hb', rv.tr sx.tr⟩
      | ownI cn ns ds => obtain ⟨b, C, dx, fs, ev, hc, hb', hn, rv⟩ := q; exact ⟨b, C, dx, fs, ev, hc, by rw [upd_ne (ne_of_own j _ b ne e rfl (join_some ev))]; exact hb', hn, rv.tr sx.tr⟩
      | ownT ks ds => obtain ⟨b, kvs, ev, hb', hn, rv⟩ := q; exact ⟨b, kvs, ev, by rw [upd_ne (ne_of_own j _ b ne e rfl (join_some ev))]; exact hb', hn, rv.tr sx.tr⟩
      | ownD ks ds => obtain ⟨b, kvs, ev, hb', hn, rv⟩ := q; exact ⟨b, kvs, ev, by rw [upd_ne (ne_of_own j _ b ne e rfl (join_some ev))]; exact hb', hn, rv.tr sx.tr⟩
  · rcases get_set e with ⟨rfl, rfl⟩ | ⟨ne, e⟩
    · rw [hs] at es; cases es; exact ⟨na, nc, n0⟩
    · exact R.own j s' b e ho es
  · rcases get_set e1 with ⟨rfl, rfl⟩ | ⟨n1, e1⟩
    · rcases get_set e2 with ⟨rfl, rfl⟩ | ⟨n2, e2⟩
      · rfl
      · exact R.inj _ k _ s2 b he rfl e2 o2 h1 h2
    · rcases get_set e2 with ⟨rfl, rfl⟩ | ⟨n2, e2⟩
      · exact R.inj j _ s1 _ b e1 o1 he rfl h1 h2
      · exact R.inj j k s1 s2 b e1 o1 e2 o2 h1 h2
  · exact ⟨R.wd.len, fun k b ys h1 h2 => by
      obtain ⟨us', hb', rr⟩ := R.wd.sto k b ys h1 h2
      exact ⟨us', by rw [upd_ne (show b ≠ a from fun z => nc (z ▸ List.mem_of_getElem? h1))]; exact hb', rr.tr sx.tr⟩, R.wd.cn, R.wd.nd, fun b z e => R.wd.trk b z (tk b e)⟩
  · have : b ≠ a := fun z => by rw [z, n0] at e; cases e
    rw [upd_ne this]
    exact R.base b o e n
def frzT (i : Nat) (env : Env) : Env := match env[i]? with
  | some (.ownT ks xs) => env.set i (.val (.dit ks xs))
  | _ => env
theorem Rel.frzT {i : Nat} (R : Rel mg E N c env st σ H) : ∃ N', Rel mg E N' c (LW.frzT i env) st σ H ∧ Sx N c H N' c H := by
  unfold LW.frzT
  split
  · rename_i ks xs he
    obtain ⟨a, kvs, es, ha, hm, r⟩ := R.sl i _ he
    have es := join_some es
    obtain ⟨na, nc, n0⟩ := R.own i _ a he rfl es
    have less : ∀ b, (N b ∧ b ≠ a) → N b := fun b z => z.1
    have tr : Tr N c H (fun b => N b ∧ b ≠ a) c H := Tr.less less
    have il : i < env.length := (List.getElem?_eq_some_iff.mp he).1
    refine ⟨fun b => N b ∧ b ≠ a, ⟨by rw [List.length_set]; exact R.len, fun j s' e => ?_, fun j s' b e ho z => ?_, fun j k s1 s2 b e1 o1 e2 o2 h1 h2 => ?_, R.wd.less less fun b z => ⟨R.wd.cn b z, fun q => nc (q ▸ z)⟩, fun b z => ⟨R.n0 b z, fun q => R.t0 b z (by rw [q]; exact n0)⟩, R.t0, R.base, R.pre, R.newc, fun j cn ns ds b e z => (get_set e).elim (fun q => nomatch q.2) fun q => R.slf j cn ns ds b q.2 z⟩, ⟨fun _ _ e _ => e, fun b z => .inl z.1, fun _ _ z => z, fun _ z => .inl z, fun _ z => z, fun _ _ z => z⟩⟩
    · rcases get_set e with ⟨rfl, rfl⟩ | ⟨ne, e⟩
      · rw [es]
        exact ⟨.ref a, rfl, .dit ha (fun z => z.2 rfl) hm (r.tr tr)⟩
      · have q := R.sl j s' e
        cases s' with
        | un => trivial
        | val d => obtain ⟨v, ev, rv⟩ := q; exact ⟨v, ev, rv.tr tr⟩
        | own ys => obtain ⟨b, us', ev, hb', rv⟩ := q; exact ⟨b, us', ev, hb', rv.tr tr⟩
        | ownI cn ns ds => obtain ⟨b, C, dx, fs, ev, hc, hb', hn, rv⟩ := q; exact ⟨b, C, dx, fs, ev, hc, hb', hn, rv.tr tr⟩
        | ownD ks ds => obtain ⟨b, kvs, ev, hb', hn, rv⟩ := q; exact ⟨b, kvs, ev, hb', hn, rv.tr tr⟩
        | ownT ks ds => obtain ⟨b, kvs, ev, hb', hn, rv⟩ := q; exact ⟨b, kvs, ev, hb', hn, rv.tr tr⟩
    · rcases get_set e with ⟨rfl, rfl⟩ | ⟨ne, e⟩
      · cases ho
      · obtain ⟨z1, z2, z3⟩ := R.own j s' b e ho z
        refine ⟨⟨z1, fun q => ?_⟩, z2, z3⟩
        subst q
        exact ne (R.inj i j _ s' b he rfl e ho es z)
    · rcases get_set e1 with ⟨rfl, rfl⟩ | ⟨n1, e1⟩
      · cases o1
      · rcases get_set e2 with ⟨rfl, rfl⟩ | ⟨n2, e2⟩
        · cases o2
        · exact R.inj j k s1 s2 b e1 o1 e2 o2 h1 h2
  · exact ⟨N, R, Sx.refl⟩
end
def sFrzT (i : Nat) (f : SS) : SS := fun env st => f (frzT i env) st
section
variable {mg : Glob} {X : Cx} {s : Stmt} {f : SS}
theorem r_frzT {i : Nat} {De : Ends} {σ : L2.St} {H : Hp} (h : tS mg (sFrzT i f) De σ H) : tS mg f De σ H := by
  obtain ⟨E, N, c, env, st, o, st', R, q, p⟩ := tS_def.mp h
  obtain ⟨N', R', x⟩ := R.frzT (i := i)
  exact tS_def.mpr ⟨E, N', c, frzT i env, st, o, st', R', q, p.from x⟩
theorem s_frzT (i : Nat) (h : PS X s (tS mg f)) : PS X s (tS mg (sFrzT i f)) := ps_weak h fun _ _ _ z => r_frzT z
end
/-! ### a new dict -/
def RDT (mg : Glob) : Told DKT := fun _ _ H N' c' H' v d => ∃ p kvs, v = .ref p ∧ H p = none ∧ N' p ∧ p ∉ c' ∧ H' p = some (.dT kvs) ∧ kvs.map (·.1) = d.1 ∧ RepL mg N' c' H' (kvs.map (·.2)) d.2
abbrev tDT (mg : Glob) (f : Fx DKT) : TE := tX mg (RDT mg) f
def eDT (f : Fx DKT) : SE := fun env st => (f env st).map fun p => (.dit p.1.1 p.1.2, p.2)
section
variable {mg : Glob} {N N' : Prot} {c c' : List Addr} {H H' : Hp} {st st' : Sto} {v : V} {X : Cx} {e : Expr}
theorem back_DT : Back mg (RDT mg) := fun W x W1 ⟨p, vs, e, hp, r⟩ => ⟨p, vs, e, x.free W W1 hp, r⟩
theorem RDT.give {d : DKT} (W : Wd mg N c H st) (x : Ex N c H N' c' H') (W' : Wd mg N' c' H' st') (h : RDT mg N c H N' c' H' v d) : ∃ N'', Ex N c H N'' c' H' ∧ Wd mg N'' c' H' st' ∧ Rep mg N'' c' H' v (.dit d.1 d.2) := by
  obtain ⟨p, kvs, rfl, hp, np, nc, hv, hm, r⟩ := h
  have less : ∀ a, (N' a ∧ a ≠ p) → N' a := fun a z => z.1
  refine ⟨fun a => N' a ∧ a ≠ p, ⟨x.keep, fun a z => x.new a z.1, fun a z => ⟨x.mono a z, fun e => W.trk a z (by rw [e]; exact hp)⟩, x.pre, x.newc⟩, W'.less less fun a z => ⟨W'.cn a z, fun e => nc (e ▸ z)⟩, ?_⟩
  exact .dit hv (fun z => z.2 rfl) hm (r.tr (Tr.less less))
theorem d_giveDT {f : Fx DKT} (h : PE X e (tDT mg f)) : PE X e (tE mg (eDT f)) := pe_weak h fun σ H Q ⟨E, N, c, env, st, d, st', R, q, k⟩ => by
  unfold eDT at q
  cases qf : f env st with
  | none => rw [qf] at q; cases q
  | some p =>
    obtain ⟨xs, s1⟩ := p
    rw [qf] at q
    cases q
    refine ⟨E, N, c, env, st, xs, _, R, qf, fun v N' c' H' x W r => ?_⟩
    obtain ⟨N'', x2, W2, r2⟩ := r.give R.wd x W
    exact k v N'' c' H' x2 W2 r2
theorem RDT.laid {kvs : List (List Key × V)} {d : DKT} {p : Addr} (W : Wd mg N c H st) (hp : H p = none) (hm : kvs.map (·.1) = d.1) (r : RepL mg N c H (kvs.map (·.2)) d.2) : RDT mg N c H (fun a => N a ∨ a = p) c (upd H p (.dT kvs)) (.ref p) d :=
  ⟨p, kvs, rfl, hp, .inr rfl, W.cnone hp, upd_same, hm, r.tr ((Ex.laidN W hp).tr W)⟩
end
/-- a new empty dict, to have tuples as keys -/
def toT (f : Fx DK) : Fx DKT := fun env st => match f env st with
  | some (([], []), s1) => some (([], []), s1)
  | _ => none
def lT0 : Fx DKT := fun _ st => some (([], []), st)
section
variable {mg : Glob} {X : Cx} {e : Expr} {pos : Pos} {f : Fx DK}
theorem d_t0 : PE X (.Dict [] [] pos) (tDT mg lT0) := pe_weak pe_dnewT fun σ H Q ⟨E, N, c, env, st, d, st', R, q, k⟩ => by
  cases q
  exact fun p hp => k _ _ _ _ (Ex.laidN R.wd hp) (R.wd.laidN hp) (RDT.laid R.wd hp rfl .nil)
end
/-! ### statements -/
def sOwnT (i : Nat) (f : Fx DKT) : SS := fun env st => match f env st with
  | some (d, s1) => some (.nx (env.set i (.ownT d.1 d.2)), s1)
  | none => none
def sPutT (i : Nat) (fk fe : SE) : SS := fun env st => match fe env st with
  | some (d, s1) => (match fk env s1 with
    | some (y, s2) => (match env[i]? with
      | some (.ownT ks vs) => (match keysD y with
        | some k => if ks.length < 1000000 then some (.nx (env.set i (.ownT (putKDT (ks, vs) k d).1 (putKDT (ks, vs) k d).2)), s2) else none
        | none => none)
      | _ => none)
    | none => none)
  | none => none
section
variable {mg : Glob} {X : Cx} {e ej : Expr} {pos tpos : Pos} {fe fj : SE} {fl : Fx DKT}
theorem s_ownT {i : Nat} {x : Str} {pos' : Pos} (hN : X.N.Nodup) (he : PE X e (tDT mg fl)) (hi : X.N[i]? = some x := by rfl) (hx : Loc X.env.scope x := by first | exact Or.inl rfl | exact Or.inr rfl) (hs : swapsWith e (some (.Name x pos')) pos.line X.env = pure false := by rfl) (hf : X.fn x = true ∨ X.env.scope.names.lookup x = some .local := by first | exact .inl rfl | exact .inr rfl) :
    PS X (.Assign [.Name x pos'] e pos) (tS mg (sOwnT i fl)) := ps_weak (ps_set hN hi hx he hs hf) fun De σ H h => by
  obtain ⟨E, N, c, env, st, o, st', R, q, p⟩ := tS_def.mp h
  unfold sOwnT at q
  split at q
  · rename_i xs s1 q1
    cases q
    refine ⟨E, N, c, env, st, _, _, R, q1, fun v N' c' H' x W r => ?_⟩
    obtain ⟨a, kvs, rfl, hn, na, nc, ha, hm, rr⟩ := r
    exact p N' c' _ H' (x.sx R.wd W) ((R.ex x W).setOwnT ha na nc (R.fresh0 hn) hm rr (R.notOwn hn))
  · cases q
theorem s_putT {i : Nat} {x : Str} {p1 : Pos} (hu : X.A.units + 1 < cLine) (he : PE X e (tE mg fe)) (hj : PE X ej (tP mg fj)) (hN : X.N[i]? = some x := by rfl) (hv : Vis X.env.scope x := by first | exact Or.inl rfl | exact Or.inr (Or.inl rfl) | exact Or.inr (Or.inr rfl)) (hd : (x == ("__debug__" : Str)) = false := by decide)
    (hcd : (x == ("__classdict__" : Str)) = false := by decide) (hs : swapsWith e (some (.Subscript (.Name x p1) ej tpos)) pos.line X.env = pure false := by rfl) :
    PS X (.Assign [.Subscript (.Name x p1) ej tpos] e pos) (tS mg (sPutT i fj fe)) :=
  ps_weak (ps_dput hu (pe_var hN hv hd hcd) hj he hs) fun De σ H h => by
    obtain ⟨E, N, c, env, st, o, st', R, q, p⟩ := tS_def.mp h
    unfold sPutT at q
    split at q
    · rename_i d s1 q1
      split at q
      · rename_i y s2 q2
        split at q
        · rename_i ks vs hx
          split at q
          · rename_i kk hk
            split at q
            · rename_i hl
              cases q
              refine ⟨E, N, c, env, st, d, s1, R, q1, fun v N1 c1 H1 x1 W1 r1 => ?_⟩
              have R1 := R.ex x1 W1
              obtain ⟨a, kvs, ea, ha, hm, rr⟩ := R1.sl i _ hx
              have ea := join_some ea
              refine ⟨.ref a, ea, E, N1, c1, env, s1, _, _, R1, q2, fun w N2 c2 H2 x2 W2 r2 => ?_⟩
              have R2 := R1.ex x2 W2
              obtain ⟨b, lvs, eb, hb, hm2, r3⟩ := R2.sl i _ hx
              rw [ea] at eb
              cases eb
              obtain ⟨m1, m2⟩ := putT_rel (k := kk) (Rep.tr (x2.tr W1) r1) r3
              rw [hm2] at m1 m2
              have wr := R2.writeT (kvs' := putK lvs kk v) hx ea m1 m2
              obtain ⟨b2, rfl, hb2⟩ := r2.keysT hk
              refine ⟨a, _, rfl, DPut.t hb hb2 ?_, p N2 c2 σ _ (((x1.trans x2 R.wd).sx R.wd W2).trans wr.2) wr.1⟩
              have : lvs.length = ks.length := by rw [← hm2, List.length_map]
              rw [this]
              exact sz7 hl
            · cases q
          · cases q
        · cases q
      · cases q
    · cases q
end
end LW

/-! LwJc: sorted(d) of a dict whose keys are pairs of a whole number and a text. -/
namespace LW
open PySem L2 PyProof.Rows
/-! ### pairs in order -/
abbrev IS : Type := Int × Str
def leP (p q : IS) : Prop := p.1 < q.1 ∨ (p.1 = q.1 ∧ leS p.2 q.2)
instance {p q : IS} : Decidable (leP p q) := inferInstanceAs (Decidable (p.1 < q.1 ∨ (p.1 = q.1 ∧ leS p.2 q.2)))
/-! ### the sort -/
section
variable {prog : Program} {w : World} {A : Around} {s : Shared}
end
section
variable {X : Cx}
end
section
variable {mg : Glob} {X : Cx} {e : Expr} {es : List Expr} {p pos : Pos} {f : SA}
end
end LW

/-! LwJd: isinstance(d, dict), {k: v}, a, b, c = x, y, dict([]), of dicts whose keys are tuples. -/
namespace LW
open PySem L2 PyProof.Rows
/-! ### isinstance(d, dict) -/
section
variable {mg : Glob} {X : Cx} {e : Expr} {es : List Expr} {p pos : Pos} {f : SA}
end
end LW
/-! ### {k: v} -/
namespace PySem
open Sem (wp)
section
variable {prog : Program} {w : World} {K : Type} [DecidableEq K] {knd : HeapKind prog w K} {A : Around} {E : Value → Shared → Prop} {s : Shared} {env : Env}
theorem wpAny_Dict_walkT {keys : List (Option Expr)} {values : List Expr} {pos : Pos} {Q : Value → Shared → Prop} (hu : knd.room A)
    (hall : keys.all (·.isSome) = true) (hl : keys.length = values.length) (h0 : keys ≠ []) (hlen : keys.length ≤ 15)
    (h : wpAny (model prog w) A (evalPairs (pairTrees keys values env pos)) (fun vs s₁ => ∃ ps, CarriesH knd s₁.heap vs ps ∧ s₁.heap.DictOfH knd s.heap.objs.size [] ∧
      ∀ h' tk, h'.DictOfH knd s.heap.objs.size (storedAllH [] ps) → Heap.SameBut s.heap.objs.size s₁.heap h' → Q (.ref s.heap.objs.size) { s₁ with heap := h', toks := tk }) E
      { s with heap := s.heap.push { cls := .type "dict", data := .dict #[] } }) :
    wpAny (model prog w) A (eval (.Dict keys values pos) env) Q E s := by
  have hn := pairTrees_length keys values env pos hall hl
  have hp0 : pairTrees keys values env pos ≠ [] := fun he => by
    rw [he] at hn
    exact h0 (List.length_eq_zero_iff.mp hn.symm)
  rw [arm_eval_Dict, zip_pairTrees keys values env pos hall hl, dictDisplay_pairs _ hp0 (by omega)]
  exact wpAny_bind (wpAny_standAt (wpAny_bind (wpAny_subDictH (knd := knd) (Q := fun d s' => wpAny (model prog w) A (pure (Value.ref d)) Q E s') hu (by omega)
    (wpAny_mono h (fun vs s₁ h₁ => by obtain ⟨ps, hc, hm, hq⟩ := h₁; exact ⟨ps, hc, hm, fun h' tk a b => wpAny_pure (hq h' tk a b)⟩) fun _ _ e => e))))
end
end PySem
namespace LW
open PySem PySem.Spec L2 PyProof.Rows
def tDispT (tk tv : TE) : TE := fun σ H Q => ∀ p, H p = none → tPairs [(tk, tv)] σ (upd H p (.dT [])) fun ps H2 => H2 p = some (.dT []) ∧
  ∃ (b : Addr) (k : List Key) (z : V), ps = [(.ref b, z)] ∧ H2 b = some (.tup (k.map kV)) ∧ Q (.ref p) (upd H2 p (.dT [(k, z)]))
theorem pe_dispT {X : Cx} {pos : Pos} {a b : Expr} {tk tv : TE} (hu : X.A.units < cLine) (hk : PE X a tk) (hv : PE X b tv) : PE X (.Dict [some a] [b] pos) (tDispT tk tv) := by
  refine ⟨fun pins s σ H Q I q => ?_⟩
  have hn := I.hok.fresh (Nat.le_refl s.heap.objs.size)
  have I1 := I.laid (a := s.heap.objs.size) (o := .dT []) (h' := s.heap.push { cls := .type "dict", data := .dict #[] }) (t' := s.toks) (fun _ _ q => Heap.get?_push_of_some _ q) (Nat.le_refl _) (dt_empty s.heap I.big)
  have pp : PPs X pos [some a] [b] [(tk, tv)] := pps_cons hk hv pps_nil
  refine wpAny_Dict_walkT (knd := tupleKind (mixKind X.prog X.w)) hu rfl rfl (fun z => nomatch z) (by show 1 ≤ 15; decide) (thn (pp.run pins _ σ _ _ I1 (q _ hn)) fun ws s2 ⟨ps, H2, I2, rel, e, c, k, z, ep, eb, q2⟩ => ?_)
  subst ep
  cases rel with
  | @cons _ v _ vs h t =>
  cases t
  obtain ⟨r1, r2⟩ := h
  obtain ⟨v1, v2⟩ := v
  cases (show v1 = Value.ref c from r1)
  obtain ⟨_, hd, xs, rel, dd⟩ := dt_of I2.hok e
  cases rel
  refine ⟨[(k, c, v2)], ⟨rfl, rfl, key_of I2.hok eb, trivial⟩, dd, fun h' tk dd' hs => ⟨.ref s.heap.objs.size, _, ?_, rfl, q2⟩⟩
  obtain ⟨q, es, ep, hq, h2, h3, h4, _, h5⟩ := dd'
  refine d_write I2 (t' := tk) (by rw [e]; exact True.intro) hs ⟨q, hq⟩ (show ObjOk X.prog X.w (upd H2 s.heap.objs.size (.dT [(k, z)])) h' s.heap.objs.size (.dT [(k, z)]) from ⟨by show 1 ≤ sizeLine; decide, hd, [(k, c, v2)], .cons ⟨rfl, ?_, r2⟩ .nil, q, es, ep, hq, h2, h3, h4, h5⟩)
  show upd H2 s.heap.objs.size _ c = _
  rw [upd_ne (ne_of eb e (fun z => nomatch z))]
  exact eb
def lTd (fk fv : SE) : Fx DKT := fun env st => match fk env st with
  | some (y, s1) => (match keysD y with
    | some k => (match fv env s1 with
      | some (d, s2) => some (([k], [d]), s2)
      | none => none)
    | none => none)
  | none => none
section
variable {mg : Glob} {X : Cx} {pos : Pos} {a b : Expr} {fa fb : SE}
theorem d_dispT (hu : X.A.units < cLine) (ha : PE X a (tE mg fa)) (hb : PE X b (tE mg fb)) : PE X (.Dict [some a] [b] pos) (tDT mg (lTd fa fb)) :=
  pe_weak (pe_dispT hu ha hb) fun σ H Q ⟨E, N, c, env, st, d, st', R, q, k⟩ => by
    unfold lTd at q
    split at q
    · rename_i y s1 q1
      split at q
      · rename_i kk hk
        split at q
        · rename_i dd s2 q2
          cases q
          intro p hp
          have x0 := Ex.laidN (o := .dT []) R.wd hp
          have W0 := R.wd.laidN (o := .dT []) hp
          refine ⟨E, _, c, env, st, y, s1, R.ex x0 W0, q1, fun u N1 c1 H1 x1 W1 r1 => ?_⟩
          refine ⟨E, N1, c1, env, s1, dd, _, (R.ex x0 W0).ex x1 W1, q2, fun v N2 c2 H2 x2 W2 r2 => ?_⟩
          have x02 := x1.trans x2 W0
          have nc : p ∉ c := R.wd.cnone hp
          have hp2 : H2 p = some (.dT []) := x02.keep p _ upd_same nc
          have np : N2 p := x02.mono p (.inr rfl)
          have nc2 : p ∉ c2 := x02.nc W0 upd_same nc
          obtain ⟨b, rfl, hb⟩ := RepT.keysT (.inl (Rep.tr (x2.tr W1) r1)) hk
          have tr : Tr N2 c2 H2 N2 c2 (upd H2 p (.dT [(kk, v)])) := ⟨fun b o h n => by rw [upd_ne fun z => n (by rw [z]; exact np)]; exact h, fun _ z => .inl z, fun _ _ z => z, fun b us e => by rw [upd_ne (fun z => by rw [z, hp2] at e; cases e)]; exact e⟩
          have tk : ∀ b, (upd H2 p (.dT [(kk, v)])) b = none → H2 b = none := fun b e => by
            by_cases q : b = p
            · rw [q, upd_same] at e; cases e
            · rw [upd_ne q] at e; exact e
          refine ⟨hp2, b, kk, v, rfl, hb, k (.ref p) N2 c2 _ ⟨fun b o h n => ?_, fun b z => ?_, fun b z => x02.mono b (.inl z), x02.pre, fun b z => ?_⟩ ⟨W2.len, fun j b xs h1 h2 => ?_, W2.cn, W2.nd, fun b z e => W2.trk b z (tk b e)⟩ ⟨p, [(kk, v)], rfl, hp, np, nc2, upd_same, rfl, .cons (Rep.tr tr r2) .nil⟩⟩
          · have : b ≠ p := ne_of_none h hp
            rw [upd_ne this]
            exact x02.keep b o (by rw [upd_ne this]; exact h) n
          · rcases x02.new b z with (y | y) | y
            · exact .inl y
            · rw [y]; exact .inr hp
            · by_cases w : b = p
              · rw [w]; exact .inr hp
              · rw [upd_ne w] at y; exact .inr y
          · rcases x02.newc b z with y | y
            · exact .inl y
            · by_cases w : b = p
              · rw [w]; exact .inr hp
              · rw [upd_ne w] at y; exact .inr y
          · obtain ⟨o, ho, rr⟩ := W2.sto j b xs h1 h2
            exact ⟨o, by rw [upd_ne (show b ≠ p from fun z => nc2 (z ▸ List.mem_of_getElem? h1))]; exact ho, rr.tr tr⟩
        · cases q
      · cases q
    · cases q
end
/-! ### a, b, c = x, y, dict([]) -/
def sPar3T (i j l : Nat) (fa fb : SE) (fc : Fx DKT) : SS := fun env st => match fa env st with
  | some (x, s1) => match fb env s1 with
    | some (y, s2) => match fc env s2 with
      | some (z, s3) => some (.nx (((env.set i (.val x)).set j (.val y)).set l (.ownT z.1 z.2)), s3)
      | none => none
    | none => none
  | none => none
section
variable {mg : Glob} {X : Cx} {a b c : Expr} {pos : Pos} {fa fb : SE} {fc : Fx DKT}
end
end LW

/-! LwJe: repr of a list with dicts within. -/
namespace LW
open PySem PySem.Spec L2 PyProof.Rows
def keyPy : Key → PyData
  | .inl i => .int i
  | .inr z => .str z
mutual
inductive DpD (H : Hp) : V → PyData → Prop where
  | non : DpD H .non .none
  | bl (b : Bool) : DpD H (.bl b) (.bool b)
  | int (i : Int) : DpD H (.int i) (.int i)
  | str (x : Str) : DpD H (.str x) (.str x)
  | tup {a : Addr} {vs : List V} {ds : List PyData} (h : H a = some (.tup vs)) (r : DpDs H vs ds) : DpD H (.ref a) (.tuple ds)
  | dK {a : Addr} {kvs : List (Key × V)} {ds : List PyData} (h : Rd H a (.dK kvs)) (r : DpDs H (kvs.map (·.2)) ds) : DpD H (.ref a) (.dict ((kvs.map fun kv => keyPy kv.1).zip ds))
  | dT {a : Addr} {kvs : List (List Key × V)} {ds : List PyData} (h : Rd H a (.dT kvs)) (r : DpDs H (kvs.map (·.2)) ds) : DpD H (.ref a) (.dict ((kvs.map fun kv => PyData.tuple (kv.1.map keyPy)).zip ds))
inductive DpDs (H : Hp) : List V → List PyData → Prop where
  | nil : DpDs H [] []
  | cons {v : V} {d : PyData} {vs : List V} {ds : List PyData} (h : DpD H v d) (t : DpDs H vs ds) : DpDs H (v :: vs) (d :: ds)
end
theorem DpDs.length {H : Hp} : ∀ {vs : List V} {ds : List PyData}, DpDs H vs ds → vs.length = ds.length
  | _, _, .nil => rfl
  | _, _, .cons _ t => by rw [List.length_cons, List.length_cons, DpDs.length t]
section
variable {X : Cx} {pins : List (Addr × Obj)} {σ : L2.St} {H : Hp} {s : Shared}
theorem reads_keys {h : Heap} : ∀ {ks : List Key} {us : List Value}, Vals (ks.map kV) us → ReadsAll h us (ks.map keyPy) []
  | [], _, .nil => .nil
  | k :: ks, _, .cons r t => by
    have := reads_keys (h := h) t
    cases k with
    | inl i =>
      obtain ⟨t, rfl⟩ := (show ∃ t, _ = Value.int i t from r)
      exact ReadsAll.cons (.int i t) this
    | inr z =>
      obtain ⟨t, rfl⟩ := (show ∃ t, _ = Value.str z t from r)
      exact ReadsAll.cons (.str z t) this
theorem reads_pairs {P : Program} {w : World} {h : Heap} : ∀ {es : List DictEntry} {vs : List (Key × Value)}, Pairs (mixKind P w) es vs → ReadsAll h (es.map (·.key)) (vs.map fun q => keyPy q.1) [] ∧ es.map (·.val) = vs.map (·.2)
  | _, _, .nil => ⟨.nil, rfl⟩
  | _, _, .cons (e := e) (kv := kv) a b t => by
    obtain ⟨h1, h2⟩ := reads_pairs (h := h) t
    refine ⟨?_, by rw [List.map_cons, List.map_cons, h2, b]⟩
    rw [List.map_cons, List.map_cons]
    have a : keyIs kv.1 e.key = true := a
    rcases keyIs_shape a with ⟨i, t, ei, ek⟩ | ⟨y, t, ey, ek⟩
    · rw [ei, ek]
      exact ReadsAll.cons (.int i t) h1
    · rw [ey, ek]
      exact ReadsAll.cons (.str y t) h1
theorem reads_keysT (I : Inv X pins σ H s) : ∀ {kvs : List (List Key × V)} {xs : List (List Key × Addr × Value)}, KT H kvs xs → ReadsAll s.heap (xs.map fun x => Value.ref x.2.1) (kvs.map fun kv => PyData.tuple (kv.1.map keyPy)) []
  | _, _, .nil => .nil
  | p :: _, q :: _, .cons r t => by
    obtain ⟨e1, e2, _⟩ := r
    obtain ⟨_, its, rv, o, h1, h2, n, h3⟩ := (show ObjOk X.prog X.w H s.heap q.2.1 (.tup (p.1.map kV)) from I.hok _ _ e2)
    exact ReadsAll.cons (as := []) (bs := []) (Reads.tuple h1 h2 h3 (by simpa using reads_keys rv)) (reads_keysT I t)
theorem kv_vals : ∀ {kvs : List (Key × V)} {vs : List (Key × Value)}, KV kvs vs → Vals (kvs.map (·.2)) (vs.map (·.2)) := by
  intro kvs vs r
  unfold KV at r
  induction r with
  | nil => exact .nil
  | cons h t ih => exact .cons h.2 ih
theorem kt_vals : ∀ {kvs : List (List Key × V)} {xs : List (List Key × Addr × Value)}, KT H kvs xs → Vals (kvs.map (·.2)) (xs.map fun x => x.2.2)
  | _, _, .nil => .nil
  | _, _, .cons h t => .cons h.2.2 (kt_vals t)
theorem kv_keys {kvs : List (Key × V)} {vs : List (Key × Value)} (r : KV kvs vs) : (vs.map fun q => keyPy q.1) = kvs.map fun kv => keyPy kv.1 := by
  have := congrArg (List.map keyPy) r.keys
  rw [List.map_map, List.map_map] at this
  exact this.symm
theorem zip_fst {α β : Type} {xs : List α} {ys : List β} (l : xs.length = ys.length) : (xs.zip ys).map (·.1) = xs := List.map_fst_zip (by omega)
theorem zip_snd {α β : Type} {xs : List α} {ys : List β} (l : xs.length = ys.length) : (xs.zip ys).map (·.2) = ys := List.map_snd_zip (by omega)
mutual
theorem DpD.reads (I : Inv X pins σ H s) {v : V} {d : PyData} {u : Value} : DpD H v d → RelV v u → ∃ as, Reads s.heap u d as ∧ sysModules ∉ as
  | .non, r => by
    cases (show u = Value.none from r)
    exact ⟨_, .none, by simp⟩
  | .bl b, r => by
    cases (show u = Value.bool b from r)
    exact ⟨_, .bool b, by simp⟩
  | .int i, r => by
    obtain ⟨t, rfl⟩ := (show ∃ t, u = Value.int i t from r)
    exact ⟨_, .int i t, by simp⟩
  | .str x, r => by
    obtain ⟨t, rfl⟩ := (show ∃ t, u = Value.str x t from r)
    exact ⟨_, .str x t, by simp⟩
  | .tup (a := a) (vs := vs) h q, r => by
    cases (show u = Value.ref a from r)
    obtain ⟨_, its, rv, o, h1, h2, n, h3⟩ := (show ObjOk X.prog X.w H s.heap a (.tup vs) from I.hok _ _ h)
    obtain ⟨as, r1, r2⟩ := DpDs.reads I q rv
    exact ⟨as, Reads.tuple h1 h2 h3 (by simpa using r1), r2⟩
  | .dK (a := a) (kvs := kvs) (ds := ds) h q, r => by
    cases (show u = Value.ref a from r)
    obtain ⟨z, lo, vs, kv, o, es, ep, h1, h2, h3, h4, prs, nd⟩ := dk_rd I.hok h
    obtain ⟨p1, p2⟩ := reads_pairs (h := s.heap) prs
    have rv := kv_vals kv
    rw [← p2] at rv
    obtain ⟨as, r1, r2⟩ := DpDs.reads I q rv
    have l : (kvs.map fun kv => keyPy kv.1).length = ds.length := by rw [List.length_map, ← q.length, List.length_map]
    refine ⟨_, Reads.dict h1 h2.1 h3 (as := []) (bs := as) ?_ ?_, ?_⟩
    · rw [zip_fst l, ← kv_keys kv]
      exact p1
    · rw [zip_snd l]
      exact r1
    · simp only [List.nil_append, List.cons_append, List.mem_cons, not_or]
      exact ⟨fun e => by rw [← e] at lo; simp at lo, r2⟩
  | .dT (a := a) (kvs := kvs) (ds := ds) h q, r => by
    cases (show u = Value.ref a from r)
    obtain ⟨z, lo, xs, kt, o, es, ep, h1, h2, h3, h4, _, nd⟩ := dt_rd I.hok h
    have e1 : es.toList.map (·.key) = xs.map fun x => Value.ref x.2.1 := by rw [h4, List.map_map]; rfl
    have e2 : es.toList.map (·.val) = xs.map fun x => x.2.2 := by rw [h4, List.map_map]; rfl
    have rv := kt_vals kt
    rw [← e2] at rv
    obtain ⟨as, r1, r2⟩ := DpDs.reads I q rv
    have l : (kvs.map fun kv => PyData.tuple (kv.1.map keyPy)).length = ds.length := by rw [List.length_map, ← q.length, List.length_map]
    refine ⟨_, Reads.dict h1 h2.1 h3 (as := []) (bs := as) ?_ ?_, ?_⟩
    · rw [zip_fst l, e1]
      exact reads_keysT I kt
    · rw [zip_snd l]
      exact r1
    · simp only [List.nil_append, List.cons_append, List.mem_cons, not_or]
      exact ⟨fun e => by rw [← e] at lo; simp at lo, r2⟩
theorem DpDs.reads (I : Inv X pins σ H s) {vs : List V} {ds : List PyData} {us : List Value} : DpDs H vs ds → Vals vs us → ∃ as, ReadsAll s.heap us ds as ∧ sysModules ∉ as
  | .nil, .nil => ⟨[], .nil, by simp⟩
  | .cons h t, .cons r q => by
    obtain ⟨as, r1, r2⟩ := DpD.reads I h r
    obtain ⟨bs, r3, r4⟩ := DpDs.reads I t q
    exact ⟨as ++ bs, .cons r1 r3, fun z => (List.mem_append.mp z).elim r2 r4⟩
end
end
end LW
namespace PySem
open Sem (wp)
end PySem
namespace LW
open PySem PySem.Spec L2 PyProof.Rows
/-! ### the mirror -/
section
variable {mg : Glob} {N : Prot} {c : List Addr} {H : Hp} {st : Sto}
end
end LW

/-! LwJf: how mirrors with dicts of tuple keys run; repr of dicts and of great numbers. -/
namespace LW
open PySem L2 PySem.Spec PyProof.Rows
section
variable {env : Env} {st : Sto} {Q : D → Sto → Prop} {QL : List D → Sto → Prop} {QT : DKT → Sto → Prop} {QS : Out → Sto → Prop} {QI : Src → Sto → Prop} {i j l : Nat} {fa fb fe fk : SE} {f : Fx DKT} {fd : Fx DK}
theorem z_DT (h : Ok (f env st) fun d s => Q (.dit d.1 d.2) s) : Ok (eDT f env st) Q := by
  obtain ⟨d, s1, e1, h⟩ := h
  exact ⟨_, s1, by unfold eDT; rw [e1]; rfl, h⟩
theorem z_t0 (h : QT ([], []) st) : Ok (lT0 env st) QT := ⟨_, st, rfl, h⟩
theorem z_toT (h : Ok (fd env st) fun d s => d = ([], []) ∧ QT ([], []) s) : Ok (toT fd env st) QT := by
  obtain ⟨d, s1, e1, rfl, h⟩ := h
  exact ⟨_, s1, by unfold toT; rw [e1], h⟩
theorem z_Td (h : Ok (fk env st) fun y s1 => ∃ k, keysD y = some k ∧ Ok (fe env s1) fun d s2 => QT ([k], [d]) s2) : Ok (lTd fk fe env st) QT := by
  obtain ⟨y, s1, e1, k, e2, d, s2, e3, q⟩ := h
  exact ⟨_, s2, by unfold lTd; rw [e1]; dsimp only; rw [e2]; dsimp only; rw [e3], q⟩
theorem z_ownT (h : Ok (f env st) fun d s => QS (.nx (env.set i (.ownT d.1 d.2))) s) : Ok (sOwnT i f env st) QS := by
  obtain ⟨d, s1, e1, h⟩ := h
  exact ⟨_, s1, by unfold sOwnT; rw [e1], h⟩
theorem z_putT (h : Ok (fe env st) fun d s1 => Ok (fk env s1) fun y s2 => ∃ ks vs k, env[i]? = some (.ownT ks vs) ∧ keysD y = some k ∧ ks.length < 1000000 ∧ QS (.nx (env.set i (.ownT (putKDT (ks, vs) k d).1 (putKDT (ks, vs) k d).2))) s2) : Ok (sPutT i fk fe env st) QS := by
  obtain ⟨d, s1, e1, y, s2, e2, ks, vs, k, e3, e4, l, q⟩ := h
  exact ⟨_, s2, by unfold sPutT; rw [e1]; dsimp only; rw [e2]; dsimp only; rw [e3]; dsimp only; rw [e4]; dsimp only; rw [if_pos l], q⟩
theorem z_frzT {f : SS} (h : Ok (f (frzT i env) st) QS) : Ok (sFrzT i f env st) QS := h
theorem z_par3T (h : Ok (fa env st) fun x s1 => Ok (fb env s1) fun y s2 => Ok (f env s2) fun z s3 => QS (.nx (((env.set i (.val x)).set j (.val y)).set l (.ownT z.1 z.2))) s3) : Ok (sPar3T i j l fa fb f env st) QS := by
  obtain ⟨x, s1, e1, y, s2, e2, z, s3, e3, q⟩ := h
  exact ⟨_, s3, by unfold sPar3T; rw [e1]; dsimp only; rw [e2]; dsimp only; rw [e3], q⟩
end
/-! ### texts of dicts and of great numbers -/
section
variable {s : Sto} {Q : D → Prop} {d : D} {xs : List D} {ps : List PyData} {n : Nat}
end
end LW

/-! LwKa: texts: parts of texts, str(n), int(text), abs, join, startswith; defs as values. -/
namespace LW
open PySem L2 PyProof.Rows
/-! ### parts of texts -/
section
variable {mg : Glob} {X : Cx} {e : Expr} {lo hi : Option Expr} {pos p2 : Pos} {f : SE} {gl gh : SO}
end
/-! ### str(n), int(text), abs(n) -/
section
variable {mg : Glob} {X : Cx} {e : Expr} {es : List Expr} {p pos : Pos} {f : SA}
end
/-! ### sep.join(xs), text.startswith(word, at) -/
def eJoin (fo fa : SE) : SE := fun env st => match fo env st with
  | some (.str a, s1) => (match fa env s1 with
    | some (x, s2) => (match lstS s2 x with
      | some ys => if (ys.map (·.length)).sum + ys.length * a.length ≤ 1000000 then some (.str (Txt.join a ys), s2) else none
      | none => none)
    | none => none)
  | _ => none
def eSw3 (fo : SE) (fs : SA) : SE := fun env st => match fo env st with
  | some (.str a, s1) => (match fs env s1 with
    | some ([.str b, .int i], s2) => some (.bl (Txt.startswith3 a b i), s2)
    | _ => none)
  | _ => none
section
variable {mg : Glob} {X : Cx} {o e : Expr} {es : List Expr} {apos pos : Pos} {fo fa : SE} {fs : SA}
end
/-! ### defs as values -/
section
variable {X : Cx} {k : Nat} {ps : List Str} {g : FM} {x y : Str} {p pos : Pos} {e : Expr} {es : List Expr} {fs : SA} {st : Stmt}
end
end LW

/-! LwKb: how mirrors with texts run. -/
namespace LW
open PySem L2 PyProof.Rows
section
variable {env : Env} {st : Sto} {Q : D → Sto → Prop} {fo fa : SE} {fs : SA} {g : FM} {i : Nat} {nm : Str}
theorem z_join (h : Ok (fo env st) fun d s1 => ∃ a, d = .str a ∧ Ok (fa env s1) fun x s2 => ∃ ys, lstS s2 x = some ys ∧ (ys.map (·.length)).sum + ys.length * a.length ≤ 1000000 ∧ Q (.str (Txt.join a ys)) s2) : Ok (eJoin fo fa env st) Q := by
  obtain ⟨d, s1, e1, a, rfl, x, s2, e2, ys, e3, l, q⟩ := h
  exact ⟨_, s2, by unfold eJoin; rw [e1]; dsimp only; rw [e2]; dsimp only; rw [e3]; dsimp only; rw [if_pos l], q⟩
theorem z_sw3 (h : Ok (fo env st) fun d s1 => ∃ a, d = .str a ∧ Ok (fs env s1) fun ds s2 => ∃ b i, ds = [.str b, .int i] ∧ Q (.bl (Txt.startswith3 a b i)) s2) : Ok (eSw3 fo fs env st) Q := by
  obtain ⟨d, s1, e1, a, rfl, ds, s2, e2, b, i, rfl, q⟩ := h
  exact ⟨_, s2, by unfold eSw3; rw [e1]; dsimp only; rw [e2], q⟩
end
end LW

/-! LwLa: errors of own classes are made: by place, by name, without a value. (The first four proofs are turned from those for calls without names.) -/
namespace PySem
namespace LeafX
open PySem.W PySem.Calls PyProof.Rows PySem.HandSPX
section
variable {M : Model} {A : Around} {E : Value → Shared → Prop} {h : Heap} {g : Array GenState} {d : Drawn} {t : Nat} {os : OsState}
variable {nm q : Str} {C N : Addr} {bs bm bmB : List Value} {hdct : Bool} {sn : List Str} {sub : List Value} {ab : Bool} {col : Option Bool} {dd : Option Addr} {k0 k1 k2 k3 k5 : Option Value} {B newId initId : String} {kw : List (Str × Value)}

end
section
variable {prog : Program} {w : World} {A : Around} {E : Value → Shared → Prop} {R : Result → Shared → Prop} {h : Heap} {g : Array GenState} {d : Drawn} {t : Nat} {os : OsState}
variable {nm q : Str} {C N : Addr} {bs bm bmB : List Value} {hdct : Bool} {sn : List Str} {sub : List Value} {ab : Bool} {col : Option Bool} {dd : Option Addr} {k0 k1 k2 k3 k5 : Option Value} {B newId initId : String} {kw : List (Str × Value)}

end
section
variable {prog : Program} {w : World} {A : Around} {E : Value → Shared → Prop} {R : Result → Shared → Prop} {s : Shared} {K : Frag} {mg mb : Str → Option Value} {C fI : Addr} {qual : Str}
end
end LeafX
end PySem

/-! LwLb: errors as data: made, their value, isinstance of them. (The first three proofs are turned from those for an error without a dict.) -/
namespace PySem.W
open PySem PySem.Spec PySem.Calls PyProof.Rows
section
variable {prog : Program} {w : World} {A : Around} {E : Value → Shared → Prop} {s : Shared} {K : Frag} {x D : Addr} {ox : Obj}
end
end PySem.W
namespace LW
open PySem L2 PyProof.Rows
section
variable {X : Cx} {C fI : Addr} {qual x : Str} {pins : List (Addr × Obj)} {σ : L2.St} {H1 : Hp} {s : Shared} {us : List Value} {kw : List (Str × Value)} {u : Value} {v : V} {Q : VK} {k : Nat}
end
end LW

/-! LwLc: errors as data, as mirrors see them; xs.pop(); repr of any thing. -/
namespace LW
open PySem L2 PyProof.Rows
section
variable {mg : Glob} {N : Prot} {c : List Addr} {H : Hp} {st : Sto} {v : V} {x : D} {a d C : Addr} {cn : Str}
end
/-- C(e); C(); C() of a class without an own __init__; e.value -/
def eErr (cn : Str) (f : SE) : SE := fun env st => match f env st with
  | some (d, s1) => some (.err cn [d], s1)
  | none => none
def eErr0 (cn : Str) : SE := fun _ st => some (.err cn [.non], st)
def eErrB (cn : Str) : SE := fun _ st => some (.err cn [], st)
section
variable {mg : Glob} {X : Cx} {e : Expr} {f : SE} {p pos kp : Pos} {cn : Str} {k : Nat} {es : List Str}
end
/-! ### isinstance of an error -/
theorem RepT.err {mg : Glob} {N : Prot} {c : List Addr} {H : Hp} {u : V} {cn : Str} {vs : List D} (h : RepT mg N c H u (.err cn vs)) : ∃ (a C : Addr) (d : Option Addr), u = .ref a ∧ mg.mg cn = some (.ref C) ∧ H a = some (ErO C d a) ∧ ∀ dx, d = some dx → ∃ fs, H dx = some (.xd fs) := by
  rcases h with h | ⟨_, _, _, _, e, _⟩
  · cases h with
    | err0 hc ha n => exact ⟨_, _, _, rfl, hc, ha, fun _ e => nomatch e⟩
    | err1 hc ha n hd nd r => exact ⟨_, _, _, rfl, hc, ha, fun _ e => by cases e; exact ⟨_, hd⟩⟩
  · cases e
/-! ### repr -/
/-! ### xs.pop() -/
section
variable {mg : Glob} {X : Cx} {o : Expr} {fo : SE} {apos cpos pos : Pos}
end
end LW

/-! LwLd: errors as data: forward rules; the facts at the head. -/
namespace LW
open PySem L2 PyProof.Rows
section
variable {env : Env} {st : Sto} {Q : D → Sto → Prop} {f fo : SE} {cn : Str} {es : List Str} {QS : Out → Sto → Prop} {QD : D → Prop} {s : Sto}
theorem z_err (h : Ok (f env st) fun d s => Q (.err cn [d]) s) : Ok (eErr cn f env st) Q := by
  obtain ⟨d, s1, e, q⟩ := h
  exact ⟨_, _, by unfold eErr; rw [e], q⟩
theorem z_err0 (q : Q (.err cn [.non]) st) : Ok (eErr0 cn env st) Q := ⟨_, _, rfl, q⟩
theorem z_errB (q : Q (.err cn []) st) : Ok (eErrB cn env st) Q := ⟨_, _, rfl, q⟩
end
/-! ### facts -/
end LW

/-! LwMa: x.split(y), x.partition(y), texts in order (>=), xs.index(text), xs.count(text), None in xs. -/
namespace PySem.SeqAt
open PySem PySem.EqNone
theorem dict_eq_declines_noneL (l : Addr) (dd : Option Addr) (sl : Array (Option Value)) (es : Array DictEntry) (ep : Nat) :
    Meets (Builtin.«dict.__eq__» ⟨[.ref l, .none], []⟩) (fun _ R s => s.heap.get? l = some { cls := .type "dict", dict := dd, data := .dict es ep, slots := sl } ∧ R (.ok (.ret .notImplemented)) s) :=
  .of_wp fun prog w A R s h => by obtain ⟨hp, g, d, tk, os⟩ := s; obtain ⟨hl, h⟩ := h; have f1 := F.sub_NoneType_dict; wp_walk using wpAny_loadPart' hl, wpAny_load hl; exact ⟨_, rfl, h⟩
section
variable {A : Around} {s : Shared}
theorem RcAt.dict_noneL {l : Addr} (hl : IsD s.heap l) (hu : A.units < cLine) : RcAt A s (.ref l) .none false := fun prog w E Q h => by
  obtain ⟨⟨cls, dd, data, sl⟩, es, ep, ho, hc, hd⟩ := id hl
  simp only at hc hd
  subst hc hd
  exact rc_eq_decline_or (k := false) ⟨_, ho, rfl⟩ rfl (by decide) F.sub_NoneType_dict F.slot_dict_eq F.slot_NoneType_eq_refl
    (fun _ hq => call_meets F.slot_dict_eq ⟨_, ho, rfl⟩ F.entry_dict_eq (F.args_dict_eq_2 _ _) (dict_eq_declines_noneL l dd sl es ep) ⟨ho, hq⟩)
    (fun _ hq => call_gives F.slot_NoneType_eq_refl rfl F.entry_NoneType_eq (F.args_NoneType_eq_2 _ _) (NoneType___eq___none_ref_0 l) hq)
    (fun _ hq => wpAny_of_eq (rfl : isSame (.ref l) .none = pure false) hq) (.inr hu) h
theorem EqAt.dict_noneL {l : Addr} (hl : IsD s.heap l) (hu : A.units < cLine) : EqAt A s (.ref l) .none false := fun prog w E Q h => by
  unfold eqBool
  refine wpAny_holding ?_
  refine wpAny_ite_split (fun hab => absurd (eq_of_beq hab) nofun) (fun _ => ?_)
  exact wpAny_bind (RcAt.dict_noneL hl hu prog w E _ (wpAny_truthy_bool h))
end
end PySem.SeqAt
namespace LW
open PySem PySem.Spec L2 PyProof.Rows
/-! ### None in a list -/
/-- what None is not: told by its kind -/
def NK (K : PySem.W.Frag) (H : Hp) (z : V) : Prop := z = .non ∨ (∃ b, z = .bl b) ∨ (∃ i, z = .int i) ∨ (∃ x, z = .str x) ∨ ∃ a, z = .ref a ∧ ((∃ ys, SqT K H a ys) ∨ (∃ ys, SqL K H a ys) ∨ (∃ kvs, Rd H a (.dK kvs)) ∨ ∃ kvs, Rd H a (.dT kvs))
def isNV : V → Bool
  | .non => true
  | _ => false
section
variable {X : Cx} {pins : List (Addr × Obj)} {σ : L2.St} {H : Hp} {s : Shared}
theorem isD_T (I : Inv X pins σ H s) {a : Addr} {kvs : List (List Key × V)} (h : Rd H a (.dT kvs)) : SeqAt.IsD s.heap a := by
  obtain ⟨_, _, xs, _, o, es, ep, ho, hx, hd, _⟩ := dt_rd I.hok h
  exact ⟨o, es, ep, ho, hx.1, hd⟩
theorem nk_run (I : Inv X pins σ H s) {A : Around} (hu : A.units < cLine) {z : V} {u : Value} (h : NK X.K H z) (r : RelV z u) : SeqAt.EqAt A s u .none (decide (u = Value.none)) ∧ decide (u = Value.none) = isNV z := by
  rcases h with rfl | ⟨b, rfl⟩ | ⟨i, rfl⟩ | ⟨x, rfl⟩ | ⟨a, rfl, h⟩
  · obtain rfl : u = Value.none := r
    have e : decide (Value.none = Value.none) = true := decide_eq_true rfl
    rw [e]
    exact ⟨eqAt_V (x := .non) (y := .non) rfl rfl rfl rfl, rfl⟩
  · obtain rfl : u = Value.bool b := r
    exact ⟨SeqAt.EqAt.bool_none b, rfl⟩
  · obtain ⟨t, rfl⟩ := (show ∃ t, u = Value.int i t from r)
    exact ⟨SeqAt.EqAt.int_none i t, rfl⟩
  · obtain ⟨t, rfl⟩ := (show ∃ t, u = Value.str x t from r)
    exact ⟨SeqAt.EqAt.str_none x t, rfl⟩
  · obtain rfl : u = Value.ref a := r
    refine ⟨?_, rfl⟩
    rcases h with ⟨ys, h⟩ | ⟨ys, h⟩ | ⟨kvs, h⟩ | ⟨kvs, h⟩
    · obtain ⟨its, rv, pl, _⟩ := I.tuple h
      exact SeqAt.EqAt.tuple_none pl hu
    · obtain ⟨its, rv, pl, _⟩ := I.list h
      exact SeqAt.EqAt.list_none (plainL_is pl) hu
    · exact SeqAt.EqAt.dict_noneL (isD_of I h) hu
    · exact SeqAt.EqAt.dict_noneL (isD_T I h) hu
end
def rInN (K : PySem.W.Frag) : R2 := fun x y H Q => ∃ (l : Addr) (ys : List V), x = .non ∧ y = .ref l ∧ SqL K H l ys ∧ (∀ z ∈ ys, NK K H z) ∧ Q (.bl (ys.any isNV)) H
theorem nk_all {X : Cx} {pins : List (Addr × Obj)} {σ : L2.St} {H : Hp} {s : Shared} (I : Inv X pins σ H s) {A : Around} (hu : A.units < cLine) : ∀ {ys : List V} {its : List Value}, Vals ys its → (∀ z ∈ ys, NK X.K H z) → (∀ u ∈ its, SeqAt.EqAt A s u .none (decide (u = Value.none))) ∧ its.any (fun u => decide (u = Value.none)) = ys.any isNV
  | [], _, .nil, _ => ⟨fun u hu => (by cases hu), rfl⟩
  | z :: ys, u :: its, .cons r t, h => by
    obtain ⟨h1, h2⟩ := nk_run I hu (h z List.mem_cons_self) r
    obtain ⟨h3, h4⟩ := nk_all I hu t fun z hz => h z (List.mem_cons_of_mem _ hz)
    refine ⟨fun w hw => ?_, by rw [List.any_cons, List.any_cons, h2, h4]⟩
    rcases List.mem_cons.mp hw with rfl | hw
    · exact h1
    · exact h3 w hw
theorem op_inN {X : Cx} (hu : X.A.units + 3 < cLine) : OpR X (compareOp .In) (rInN X.K) := by
  intro pins s σ H x y v u Q I rx ry h
  obtain ⟨l, ys, rfl, rfl, hl, hp, q⟩ := h
  obtain rfl : u = .ref l := ry
  obtain rfl : v = Value.none := rx
  obtain ⟨its, rv, pl, _⟩ := I.list hl
  obtain ⟨h1, h2⟩ := nk_all I (A := X.A.in1) (by rw [show X.A.in1.units = X.A.units + 1 from rfl]; omega) rv hp
  refine SeqAt.in_listAt (fun u => decide (u = Value.none)) (plainL_is pl) (fun z hz => h1 z (by simpa using hz)) ?_
  rw [show its.toArray.any (fun u => decide (u = Value.none)) = its.any (fun u => decide (u = Value.none)) by simp, h2]
  exact ⟨.bl _, H, I, rfl, q⟩
def nkD : D → Bool
  | .non => true
  | .bl _ => true
  | .int _ => true
  | .str _ => true
  | .tup _ => true
  | .lst _ => true
  | .fro _ => true
  | .dic _ _ => true
  | .dit _ _ => true
  | _ => false
def oInN : D → D → Sto → Option D := fun x y st => match x with
  | .non => match lstR st y with
    | some xs => if xs.all nkD = true then some (.bl (xs.any isNonD)) else none
    | none => none
  | _ => none
section
variable {mg : Glob} {N : Prot} {c : List Addr} {H : Hp} {st : Sto}
theorem nk_rel {v : V} {d : D} (r : Rep mg N c H v d) (h0 : nkD d = true) : NK mg.K H v ∧ isNV v = isNonD d := by
  cases r with
  | non => exact ⟨.inl rfl, rfl⟩
  | bl b => exact ⟨.inr (.inl ⟨b, rfl⟩), rfl⟩
  | int i => exact ⟨.inr (.inr (.inl ⟨i, rfl⟩)), rfl⟩
  | str x => exact ⟨.inr (.inr (.inr (.inl ⟨x, rfl⟩))), rfl⟩
  | tup h r => exact ⟨.inr (.inr (.inr (.inr ⟨_, rfl, .inl ⟨_, SqT.of h⟩⟩))), rfl⟩
  | lst h n r => exact ⟨.inr (.inr (.inr (.inr ⟨_, rfl, .inr (.inl ⟨_, SqL.of h⟩)⟩))), rfl⟩
  | fro h n r => exact ⟨.inr (.inr (.inr (.inr ⟨_, rfl, .inr (.inl ⟨_, .inl (.inr ⟨_, h⟩)⟩)⟩))), rfl⟩
  | kro h => exact ⟨.inr (.inr (.inr (.inr ⟨_, rfl, .inr (.inl ⟨_, h H⟩)⟩))), rfl⟩
  | dic h n hn r => exact ⟨.inr (.inr (.inr (.inr ⟨_, rfl, .inr (.inr (.inl ⟨_, .inl h⟩))⟩))), rfl⟩
  | dfz h n hn r => exact ⟨.inr (.inr (.inr (.inr ⟨_, rfl, .inr (.inr (.inl ⟨_, .inr ⟨_, h⟩⟩))⟩))), rfl⟩
  | dit h n hn r => exact ⟨.inr (.inr (.inr (.inr ⟨_, rfl, .inr (.inr (.inr ⟨_, .inl h⟩))⟩))), rfl⟩
  | ditz h n hn r => exact ⟨.inr (.inr (.inr (.inr ⟨_, rfl, .inr (.inr (.inr ⟨_, .inr ⟨_, h⟩⟩))⟩))), rfl⟩
  | _ => cases h0
theorem nk_rels : ∀ {vs : List V} {xs : List D}, RepL mg N c H vs xs → xs.all nkD = true → (∀ z ∈ vs, NK mg.K H z) ∧ vs.any isNV = xs.any isNonD
  | _, _, .nil, _ => ⟨fun _ h => (by cases h), rfl⟩
  | _, _, .cons r t, h => by
    rw [List.all_cons, Bool.and_eq_true] at h
    obtain ⟨h1, h2⟩ := nk_rel r h.1
    obtain ⟨h3, h4⟩ := nk_rels t h.2
    refine ⟨fun z hz => ?_, by rw [List.any_cons, List.any_cons, h2, h4]⟩
    rcases List.mem_cons.mp hz with rfl | hz
    · exact h1
    · exact h3 z hz
end
theorem ok_inN {mg : Glob} : OpOk mg (RE mg) (rInN mg.K) oInN := by
  intro N c H st u v x y d Q W p1 p2 e k
  unfold oInN at e
  split at e
  · split at e
    · rename_i xs hx
      split at e
      · rename_i hall
        cases e
        obtain ⟨a, vs, rfl, ha, r⟩ := RepT.read W p2 hx
        obtain ⟨h1, h2⟩ := nk_rels r hall
        exact ⟨a, vs, p1.non, rfl, ha, h1, by rw [h2]; exact k _ N c H Ex.refl W (.bl _)⟩
      · cases e
    · cases e
  · cases e
/-! ### texts in order -/
/-! ### split, partition, index, count -/
section
variable {mg : Glob} {X : Cx} {a b o e : Expr} {es : List Expr} {apos cpos pos : Pos} {fo fe fa fb : SE}
theorem d_inN (hu : X.A.units + 65 < cLine) (ha : PE X a (tP mg fa)) (hb : PE X b (tP mg fb)) (hK : X.K = mg.K := by rfl) (hn : lastMarks [.In] [b] = false := by rfl) : PE X (.Compare a [.In] [b] pos) (tE mg (eOp oInN fa fb)) := d_cmp (hK ▸ op_inN (by omega)) ok_inN back_E ha hb hn
end
section
variable {mg : Glob} {X : Cx} {o e : Expr} {apos cpos pos : Pos} {fo fe : SE}
end
end LW

/-! LwMb: f(name=e, ..): a def called by its parameters' names; a call of a def that a slot holds, one of several. -/
namespace LW
open PySem PySem.Spec L2 PyProof.Rows
/-- in the order of the parameters -/
structure Pm (n : Nat) (pD : List D → List D) (pV : List V → List V) (pU : List Value → List Value) : Prop where
  u : ∀ {zs : List V} {ws : List Value}, zs.length = n → Vals zs ws → Vals (pV zs) (pU ws)
  d : ∀ {mg : Glob} {N : Prot} {c : List Addr} {H : Hp} {vs : List V} {ds : List D}, vs.length = n → RepL mg N c H vs ds → RepL mg N c H (pV vs) (pD ds)
  nv : ∀ {zs : List V}, (pV zs).length = n → zs.length = n
  m : ∀ {ds : List D}, (pD ds).length = n → ds.length = n
  k : ∀ {zs : List V}, zs.length = n → (pV zs).length = n
theorem pm_id {n : Nat} : Pm n (fun l => l) (fun l => l) (fun l => l) := ⟨fun _ h => h, fun _ h => h, fun h => h, fun h => h, fun h => h⟩
def eCallP (g : FM) (pD : List D → List D) (f : SA) : SE := fun env st => match f env st with
  | none => none
  | some (ds, s1) => g (pD ds) s1
section
variable (P : Program) (w : World) (K : PySem.W.Frag) (mg : Str → Option Value) (base : Heap)
/-- the def x keeps the promise of g, called by the names ks -/
def OkFK (k : Nat) (x : Str) (ps ks : List Str) (pD : List D → List D) (g : FM) : Prop := ∃ f fd pV pU, mg x = some (.ref f) ∧ PySem.W.keepIn K (.ref f) = true ∧ FnOk P w K mg base CX0 k f fd ps (spM ⟨mg, K⟩ g ps.length) ∧ Pm ps.length pD pV pU ∧
  (∀ (s : Shared) (ws : List Value), K.In s.heap → ws.length = ps.length → BindsTo s fd ⟨[], ks.zip ws⟩ (ps.zip (pU ws))) ∧ Ar ps.length g
end
section
variable {P : Program} {w : World} {K : PySem.W.Frag} {mg : Str → Option Value} {base : Heap} {k : Nat} {x : Str} {st : Stmt} {nm ps ks : List Str} {body : SS} {pD : List D → List D} {pV : List V → List V} {pU : List Value → List Value}
theorem okFK_mk (pm : Pm ps.length pD pV pU) (F : FT K mg x st) (S : FnScope nm ps (defScope st))
    (hb : ∀ (kV doc pm : Value) (an : Option Addr) (cdv ct : Value) (ws : List Value), ws.length = ps.length → bindArgs (PySem.W.fnOf x x (defArgs st) (defBody st) (defScope st) .none kV doc pm an cdv ct) ⟨[], ks.zip ws⟩ = pure (ps.zip (pU ws)))
    (hbody : ∀ (f : Addr) (cdv : Value) (A : Around) (outer : List PySem.Env) (s : Shared) (H : Hp) (E : XK), Room k (A.deeper (envOfC x (defScope st) s.heap.objs.size f cdv)) →
      PSs (cxOf CX0 P w K mg base nm x (defScope st) f cdv A outer s H E).nox (defBody st) (tS ⟨mg, K⟩ body)) : OkFK P w K mg base (k + 1) x ps ks pD (fnM ps.length nm.length body) := by
  obtain ⟨f, fd, hm, F⟩ := F
  refine ⟨f, fd, pV, pU, hm, F.kp, fn_M F S fun cdv A outer s H E hr => hbody f cdv A outer s H E hr, pm, fun s ws X hl => ?_, fnM_ar⟩
  obtain ⟨oc, od, kV, doc, pmm, an, cdv, ct, osl, rfl, lk, hcd⟩ := F.ex
  refine BindsTo.of_looks fun M => ?_
  exact PySem.W.Looks.of_pure (hb kV doc pmm an cdv ct ws hl)
end
section
variable {mg : Glob} {X : Cx} {k : Nat} {ps ks : List Str} {g : FM} {pD : List D → List D} {x : Str} {p pos kp : Pos} {e : Expr} {fs : SA} {f : SE} {kws : List Keyword} {nm : Option Str}
theorem k_nil : PK X [] (tA mg aNil) := ⟨fun pos pins s σ H Q I h => pk_nil.run pos pins s σ H Q I (by
  obtain ⟨E, N, c, env, st, d, st', R, q, k⟩ := h
  cases q
  exact k _ N c H Ex.refl R.wd .nil)⟩
theorem k_cons (ha : PE X e (tE mg f)) (hr : PK X kws (tA mg fs)) : PK X (⟨nm, e, kp⟩ :: kws) (tA mg (aCons f fs)) := ⟨fun pos pins s σ H Q I h => (pk_cons ha hr).run pos pins s σ H Q I (by
  obtain ⟨E, N, c, env, st, d, st', R, q, k⟩ := h
  unfold aCons at q
  split at q
  · cases q
  · rename_i d1 s1 q1
    split at q
    · cases q
    · rename_i ds s2 q2
      cases q
      exact ⟨E, N, c, env, st, d1, s1, R, q1, fun v N1 c1 H1 x1 W1 r1 => ⟨E, N1, c1, env, s1, ds, _, R.ex x1 W1, q2, fun vs N2 c2 H2 x2 W2 r2 => k _ N2 c2 H2 (x1.trans x2 R.wd) W2 (.cons (Rep.tr (x2.tr W1) r1) r2)⟩⟩)⟩
/-- f(name=e, ..) -/
theorem c_callK (h : OkFK X.prog X.w X.K X.mg X.base k x ps ks pD g) (hr : Room k X.A) (hkw : PK X kws (tA ⟨X.mg, X.K⟩ fs)) (hg : Gl X x := by rfl) (hdb : (x == ("__debug__" : Str)) = false := by decide)
    (hall : (backToKw pos (keywordEach kws X.env)).all (·.1.isSome) = true := by rfl) (hks : (backToKw pos (keywordEach kws X.env)).filterMap (·.1) = ks := by rfl)
    (hpl : ((backTo pos (starEach [] X.env)).any (·.1) || (backToKw pos (keywordEach kws X.env)).any (·.1.isNone)) = false := by rfl) :
    PE X (.Call (.Name x p) [] kws pos) (tE ⟨X.mg, X.K⟩ (eCallP g pD fs)) := by
  obtain ⟨f, fd, pV, pU, hm, hk, F, pm, hb, ar⟩ := h
  refine ⟨fun pins s σ H Q I h => ?_⟩
  obtain ⟨E, N, c, env, st, d, st', R, q, kk⟩ := h
  unfold eCallP at q
  split at q
  · cases q
  · rename_i ds s1 q1
    refine wpAny_Call_Name_kw (ld_glob I hg hm ?_ hdb)
    have hds : ds.length = ps.length := pm.m (ar _ _ _ q)
    refine PySem.W.callWith_KW0 (h₀ := X.base) I.ok.mod.kin hk hall (thn (hkw.run pos pins s σ H (fun zs H2 => zs.length = ps.length ∧ spM ⟨X.mg, X.K⟩ g ps.length (pV zs) H2 Q E0) I ?_) fun ws s2 ⟨zs, H2, I2, rz, hz, q2⟩ => ⟨I2.kIn, ?_⟩) hpl
    · refine ⟨E, N, c, env, st, ds, s1, R, q1, fun vs N' c' H' x W r => ?_⟩
      have hvs : vs.length = ps.length := by rw [r.length, hds]
      exact ⟨hvs, pm.k hvs, N', c', _, _, _, _, W, pm.d hvs r, q, fun v N2 c2 H2 x2 W2 r2 => kk v N2 c2 H2 (x.trans x2 R.wd) W2 r2⟩
    · rw [hks]
      have r2 := pm.u hz rz
      refine wpAny_call (codeAny_mono (F.run X.A X.stack s2 H2 ⟨[], ks.zip ws⟩ (pU ws) (pV zs) Q E0 hr I2.env0 (hb s2 ws I2.kIn (by rw [← rz.length, hz])) r2 q2) fun r s' hq => ?_)
      cases r with
      | error e => exact hq.elim
      | ok fl =>
        cases fl with
        | ret u => exact I2.after hq
        | next => exact False.elim hq
        | brk => exact False.elim hq
        | cont => exact False.elim hq
end
/-! ### one of several defs -/
section
variable (P : Program) (w : World) (K : PySem.W.Frag) (mg : Str → Option Value) (base : Heap)
end
section
variable {P : Program} {w : World} {K : PySem.W.Frag} {mg : Str → Option Value} {base : Heap} {j k : Nat} {x : Str} {ps : List Str} {g : FM} {tbl : List (Str × FM)}
end
section
variable {X : Cx} {k : Nat} {tbl : List (Str × FM)} {y : Str} {p pos : Pos} {e : Expr} {es : List Expr} {fs : SA}
end
/-! ### forward -/
section
variable {env : Env} {st : Sto} {Q : D → Sto → Prop} {g : FM} {pD : List D → List D} {f : SA} {tbl : List (Str × FM)} {i : Nat} {x : Str}
end
end LW

/-! LwNa: == and != of dicts whose keys are tuples. (The walk over the pairs is turned from the one for keys that are texts.) -/
namespace PySem.W
open PySem PySem.Calls PyProof.Rows PyProof.V PySem.Spec
section
variable {prog : Program} {w : World} {K : Type} [DecidableEq K] {knd : HeapKind prog w K} {A : Around} {E : Value → Shared → Prop} {s : Shared}
inductive HitsH {K : Type} [DecidableEq K] (A : Around) (s : Shared) (kb : List (K × Addr × Value)) : List (K × Addr × Value) → Bool → Prop
  | nil : HitsH A s kb [] true
  | miss {k : K} {b : Addr} {v : Value} {r : List (K × Addr × Value)} : atKey kb k = none → HitsH A s kb ((k, b, v) :: r) false
  | hit {k : K} {b c : Addr} {v y : Value} {r : List (K × Addr × Value)} {e t : Bool} : atKey kb k = some (c, y) → SeqAt.EqAt A s v y e → HitsH A s kb r t → HitsH A s kb ((k, b, v) :: r) (e && t)
theorem HitsH.inv {kb : List (K × Addr × Value)} {k : K} {c : Addr} {v : Value} {r : List (K × Addr × Value)} {b : Bool} (h : HitsH A s kb ((k, c, v) :: r) b) :
    (atKey kb k = none ∧ b = false) ∨ ∃ d y e b', atKey kb k = some (d, y) ∧ SeqAt.EqAt A s v y e ∧ HitsH A s kb r b' ∧ b = (e && b') := by
  cases h with
  | miss hn => exact .inl ⟨hn, rfl⟩
  | hit hy he hr => exact .inr ⟨_, _, _, _, hy, he, hr, rfl⟩
theorem samePairsH {nm : String} {a b : Addr} {ka kb : List (K × Addr × Value)} {r : Bool} {Q : Bool → Shared → Prop} (hu : knd.room A) (ha : (a == sysModules) = false) (hb : (b == sysModules) = false)
    (da : s.heap.DictOfH knd a ka) (db : s.heap.DictOfH knd b kb) (hits : ka.length = kb.length → HitsH A s kb ka r) (h : Q (ka.length == kb.length && r) s) :
    wpAny (model prog w) A (Builtin.Dict.samePairs nm a b) Q E s := by
  obtain ⟨oa, es, ep, hoa, _, hda, hea, hisa, hna⟩ := da
  obtain ⟨ob, es', ep', hob, _, hdb, heb, hisb, hnb⟩ := db
  have hla : ka.length = es.size := (size_of_entries hea).symm
  have hlb : kb.length = es'.size := (size_of_entries heb).symm
  rw [hla, hlb] at h
  unfold Builtin.Dict.samePairs Builtin.Dict.showsAll
  rw [if_neg (show ¬ (a == sysModules) = true by rw [ha]; exact Bool.false_ne_true), if_neg (show ¬ (b == sysModules) = true by rw [hb]; exact Bool.false_ne_true)]
  refine wpAny_bind (wpAny_pure (wpAny_bind (wpAny_pure ?_)))
  refine wpAny_bind (wpAny_dictEntries hoa hda ?_)
  dsimp only
  refine wpAny_bind (wpAny_dictEntries hob hdb ?_)
  by_cases hsz : es.size = es'.size
  case neg =>
    rw [if_pos (by simpa using hsz)]
    have hbf : (es.size == es'.size) = false := by simpa using hsz
    rw [hbf, Bool.false_and] at h
    exact wpAny_bind (wpAny_rule (wpAny_pure h))
  case pos =>
    have h' : Q r s := by simpa [hsz] using h
    have hits' := hits (by rw [hla, hlb]; exact hsz)
    rw [if_neg (by rw [hsz]; simp)]
    refine wpAny_bind (wpAny_dictEpoch hoa hda ?_)
    refine wpAny_bind ?_
    rw [Std.Legacy.Range.forIn_eq_forIn_range']
    simp only [Std.Legacy.Range.size, Nat.sub_zero, Nat.add_sub_cancel, Nat.div_one]
    refine wpAny_forIn_list _
      (fun rest q s' => s' = s ∧ q = (none, ()) ∧ ∃ i, rest = List.range' i (es.size - i) ∧ i ≤ es.size ∧ HitsH A s kb (ka.drop i) r)
      _ ?_ ?_ _ _ ⟨rfl, rfl, 0, by simp, Nat.zero_le _, hits'⟩
    · rintro x rest q s' ⟨rfl, rfl, i, hr, hi, hpre⟩
      have hlt : i < es.size := by
        rcases Nat.lt_or_ge i es.size with h | h
        · exact h
        · rw [Nat.sub_eq_zero_of_le h] at hr; simp at hr
      obtain ⟨rfl, hrest⟩ : x = i ∧ rest = List.range' (i + 1) (es.size - (i + 1)) := by
        have e : es.size - i = (es.size - (i + 1)) + 1 := by omega
        rw [e, List.range'_succ] at hr
        injection hr with h1 h2
        exact ⟨h1, h2⟩
      refine wpAny_bind (wpAny_dictEntries hoa hda ?_)
      rw [Array.getElem?_eq_getElem hlt]
      have hlt' : x < ka.length := by rw [hla]; exact hlt
      obtain ⟨k, c, v, hkv⟩ : ∃ k c v, ka[x] = (k, c, v) := ⟨_, _, _, rfl⟩
      have hdrop : ka.drop x = (k, c, v) :: ka.drop (x + 1) := by rw [← hkv]; exact List.drop_eq_getElem_cons hlt'
      have hent : es[x] = entryOfKey knd (k, c, v) := by
        have e := entry_at hea x
        rw [Array.getElem?_eq_getElem hlt, List.getElem?_eq_getElem hlt', hkv] at e
        exact Option.some.inj e
      have hkey : knd.is s'.heap k c := by
        have := hisa ka[x] (List.getElem_mem hlt')
        rw [hkv] at this
        exact this
      rw [hdrop] at hpre
      show wpAny _ _ (holding [es[x].key, es[x].val] _ >>= _) _ _ _
      rw [hent]
      refine wpAny_bind (wpAny_holding (wpAny_bind (wpAny_dictFind_heap hu hkey hob hdb heb hisb hnb (fun hn => ?_) (fun j p hj => ?_))))
      · have hn' := atKey_none_of_get hn
        rcases hpre.inv with ⟨_, er⟩ | ⟨d, y, _, _, hy, _⟩
        · rw [er] at h'
          refine wpAny_pure ?_
          show wpAny _ _ (if (!false) = true then _ else _) _ _ _
          rw [if_pos (by decide)]
          exact wpAny_pure (wpAny_pure h')
        · rw [hn'] at hy; exact nomatch hy
      · have hv' : atKey kb k = some p := atKey_of_get hnb hj
        have hjlt : j < es'.size := by rw [← hlb]; exact (List.getElem?_eq_some_iff.mp hj).1
        have hent' : es'[j]? = some (entryOfKey knd (k, p)) := by rw [entry_at heb j, hj]; rfl
        refine wpAny_bind (wpAny_dictEntries hob hdb ?_)
        rw [hent']
        rcases hpre.inv with ⟨hn, _⟩ | ⟨d, y, e, b', hy, he, hrr, er⟩
        · rw [hv'] at hn; exact nomatch hn
        · have ey : p = (d, y) := Option.some.inj (hv'.symm.trans hy)
          subst ey
          refine wpAny_holding (he _ _ _ _ ?_)
          cases e with
          | false =>
            rw [er, Bool.false_and] at h'
            show wpAny _ _ (if (!false) = true then _ else _) _ _ _
            rw [if_pos (by decide)]
            exact wpAny_pure (wpAny_pure h')
          | true =>
            rw [Bool.true_and] at er
            rw [← er] at hrr
            show wpAny _ _ (if (!true) = true then _ else _) _ _ _
            rw [if_neg (by decide)]
            refine wpAny_bind (wpAny_dictEpoch hoa hda ?_)
            rw [if_neg (by simp)]
            exact wpAny_pure ⟨rfl, rfl, x + 1, hrest, hlt, hrr⟩
    · rintro q s' ⟨rfl, rfl, i, hr, hi, hpre⟩
      have hin : i = es.size := by
        rcases Nat.lt_or_ge i es.size with h | h
        · have e : es.size - i = (es.size - (i + 1)) + 1 := by omega
          rw [e, List.range'_succ] at hr; exact nomatch hr
        · exact Nat.le_antisymm hi h
      refine wpAny_pure ?_
      rw [hin, ← hla, List.drop_length] at hpre
      cases hpre
      exact h'
theorem eqH {a b : Addr} {ka kb : List (K × Addr × Value)} {r : Bool} {Q : Value → Shared → Prop} (hr : knd.room A.in1) (ha : (a == sysModules) = false) (hb : (b == sysModules) = false)
    (da : s.heap.DictOfH knd a ka) (db : s.heap.DictOfH knd b kb) (hu : A.units < cLine) (hits : ka.length = kb.length → HitsH A.in1 s kb ka r) (h : Q (.bool (ka.length == kb.length && r)) s) :
    wpAny (model prog w) A (compareOp .Eq (.ref a) (.ref b)) Q E s := by
  refine wpAny_richCompare_same_room (op := .Eq) da.typeIs db.typeIs PySem.F.slot_dict_eq (wpAny_call_entry PySem.F.slot_dict_eq da.typeIs PySem.F.entry_dict_eq ?_ (PySem.F.args_dict_eq_2 _ _)) hu
  show wpAny _ _ (Builtin.Dict.dictSlotArgs "__eq__" ⟨[.ref a, .ref b], []⟩ >>= _) _ _ s
  refine wpAny_bind ?_
  unfold Builtin.Dict.dictSlotArgs
  refine wpAny_bind (wpAny_notOrdered_dict da.typeIs ?_)
  show wpAny _ _ (pure (Value.ref a, Value.ref b)) _ _ s
  refine wpAny_pure ?_
  refine wpAny_bind (wpAny_isInstance (T := "dict") db.typeIs PySem.F.sub_dict_dict ?_)
  simp only [Bool.not_true, Bool.false_eq_true, if_false]
  refine wpAny_bind (wpAny_pure (wpAny_bind (wpAny_pure ?_)))
  refine wpAny_bind (samePairsH hr ha hb da db hits ?_)
  refine wpAny_pure ⟨_, rfl, ?_, ?_⟩
  · exact fun x => nomatch x
  · simpa using h
theorem neH {a b : Addr} {ka kb : List (K × Addr × Value)} {r : Bool} {Q : Value → Shared → Prop} (hr : knd.room A.in1) (ha : (a == sysModules) = false) (hb : (b == sysModules) = false)
    (da : s.heap.DictOfH knd a ka) (db : s.heap.DictOfH knd b kb) (hu : A.units < cLine) (hits : ka.length = kb.length → HitsH A.in1 s kb ka r) (h : Q (.bool (!(ka.length == kb.length && r))) s) :
    wpAny (model prog w) A (compareOp .NotEq (.ref a) (.ref b)) Q E s := by
  refine wpAny_richCompare_same_room (op := .NotEq) da.typeIs db.typeIs PySem.F.slot_dict_ne (wpAny_call_entry PySem.F.slot_dict_ne da.typeIs PySem.F.entry_dict_ne ?_ (PySem.F.args_dict_ne_2 _ _)) hu
  show wpAny _ _ (Builtin.Dict.dictSlotArgs "__ne__" ⟨[.ref a, .ref b], []⟩ >>= _) _ _ s
  refine wpAny_bind ?_
  unfold Builtin.Dict.dictSlotArgs
  refine wpAny_bind (wpAny_notOrdered_dict da.typeIs ?_)
  show wpAny _ _ (pure (Value.ref a, Value.ref b)) _ _ s
  refine wpAny_pure ?_
  refine wpAny_bind (wpAny_isInstance (T := "dict") db.typeIs PySem.F.sub_dict_dict ?_)
  simp only [Bool.not_true, Bool.false_eq_true, if_false]
  refine wpAny_bind (wpAny_pure (wpAny_bind (wpAny_pure ?_)))
  refine wpAny_bind (samePairsH hr ha hb da db hits ?_)
  refine wpAny_pure ⟨_, rfl, ?_, ?_⟩
  · exact fun x => nomatch x
  · simpa using h
end
end PySem.W

/-! LwNb: == and != of dicts with flat values, == of lists of them, a dict in a list of them. (The walk of list.__contains__ is turned from the one for items that may be asked in every model.) -/
namespace PySem.SeqAt
open PySem PySem.Calls PyProof.Rows AutoSeq1 MeetsSeq
section
variable {prog : Program} {w : World}
theorem contains_loopP (l : Addr) (items : Array Value) (n : Nat) (dd : Option Addr) (sl : Array (Option Value)) (x : Value) (e : Value → Bool) (k : Nat) :
    ∀ i : Nat, items.size - i = k → MeetsIn prog w (Builtin.«list.__contains__.loop» ⟨[.ref l, x, rawInt i], []⟩)
      (fun A R s => s.heap.get? l = some { cls := .type "list", dict := dd, data := .seq items n, slots := sl } ∧ (∀ y, y ∈ items → EqP prog w A.in1 s y x (e y)) ∧ R (.ok (.ret (.bool ((items.toList.drop i).any e)))) s) := by
  induction k with
  | zero =>
    intro i hk A R s h
    obtain ⟨hp, g, d, tk, os⟩ := s; obtain ⟨hl, he, h⟩ := h
    wp_walk using wpAny_loadPart' hl
    have hi : items[((i : Nat) : Int).toNat]? = none := by simp; omega
    have hd : items.toList.drop i = [] := by simp; omega
    rw [hd] at h
    rw [hi]
    wp_walk
    exact h
  | succ k ih =>
    intro i hk A R s h
    obtain ⟨hp, g, d, tk, os⟩ := s; obtain ⟨hl, he, h⟩ := h
    wp_walk using wpAny_loadPart' hl
    have hlt : i < items.size := by omega
    have hi : items[((i : Nat) : Int).toNat]? = some items[i] := by simp [hlt]
    have hd : items.toList.drop i = items[i] :: items.toList.drop (i + 1) := by simp [List.drop_eq_getElem_cons, hlt]
    have hc : ((i : Int) + 1) = ((i + 1 : Nat) : Int) := by push_cast; rfl
    rw [hd, List.any_cons] at h
    rw [hi]
    refine wpAny_bind (he _ (Array.getElem_mem hlt) _ _ ?_)
    cases hb : e items[i] with
    | true =>
      rw [hb] at h
      wp_walk
      simpa using h
    | false =>
      rw [hb] at h
      wp_walk
      rw [hc]
      exact ⟨plainId_quiet plain_contains_loop _, codeAny_builtin entry_contains_loop (by
        rw [Around.under_plainId plain_contains_loop _]
        exact ih (i + 1) (by omega) A R _ ⟨hl, he, by simpa using h⟩)⟩
theorem list_containsP (l : Addr) (items : Array Value) (n : Nat) (dd : Option Addr) (sl : Array (Option Value)) (x : Value) (e : Value → Bool) :
    MeetsIn prog w (Builtin.«list.__contains__» ⟨[.ref l, x], []⟩)
      (fun A R s => s.heap.get? l = some { cls := .type "list", dict := dd, data := .seq items n, slots := sl } ∧ (∀ y, y ∈ items → EqP prog w A.in1 s y x (e y)) ∧ R (.ok (.ret (.bool (items.any e)))) s) := by
  intro A R s h
  obtain ⟨hp, g, d, tk, os⟩ := s; obtain ⟨hl, he, h⟩ := h
  wp_walk using wpAny_loadPart' hl
  exact ⟨plainId_quiet plain_contains_loop _, codeAny_builtin entry_contains_loop (by
    rw [Around.under_plainId plain_contains_loop _]
    exact contains_loopP l items n dd sl x e _ 0 rfl A R _ ⟨hl, he, by simpa using h⟩)⟩
variable {A : Around} {E : Value → Shared → Prop} {s : Shared}
theorem in_listP {l : Addr} {items : Array Value} {x : Value} {Q : Value → Shared → Prop} (e : Value → Bool) (hl : s.heap.IsList l items) (he : ∀ y, y ∈ items → EqP prog w A.in1 s y x (e y))
    (h : Q (.bool (items.any e)) s) : wpAny (model prog w) A (compareOp .In x (.ref l)) Q E s := by
  obtain ⟨⟨cls, dd, data, sl⟩, ho, hc, n, hd⟩ := id hl
  simp only at hc hd
  subst hc hd
  show wpAny _ A (do return .bool (← contains (.ref l) x)) Q E s
  refine wpAny_bind (wpAny_contains_slot ⟨_, ho, rfl⟩ F.slot_list_contains (wpAny_mono (call_meetsIn F.slot_list_contains ⟨_, ho, rfl⟩ F.entry_list_contains (F.args_list_contains_2 _ _) (list_containsP l items n dd sl x e) ⟨ho, he, show wants (fun v s' => ∃ b, v = .bool b ∧ Q (.bool b) s') E (.ok (.ret (.bool (items.any e)))) s from ⟨_, rfl, h⟩⟩) (fun v s' hv => ?_) fun _ _ e => e))
  obtain ⟨b, rfl, hq⟩ := hv
  exact wpAny_truthy_bool (wpAny_pure hq)
theorem notIn_listP {l : Addr} {items : Array Value} {x : Value} {Q : Value → Shared → Prop} (e : Value → Bool) (hl : s.heap.IsList l items) (he : ∀ y, y ∈ items → EqP prog w A.in1 s y x (e y))
    (h : Q (.bool (!items.any e)) s) : wpAny (model prog w) A (compareOp .NotIn x (.ref l)) Q E s := by
  obtain ⟨⟨cls, dd, data, sl⟩, ho, hc, n, hd⟩ := id hl
  simp only at hc hd
  subst hc hd
  show wpAny _ A (do return .bool !(← contains (.ref l) x)) Q E s
  refine wpAny_bind (wpAny_contains_slot ⟨_, ho, rfl⟩ F.slot_list_contains (wpAny_mono (call_meetsIn F.slot_list_contains ⟨_, ho, rfl⟩ F.entry_list_contains (F.args_list_contains_2 _ _) (list_containsP l items n dd sl x e) ⟨ho, he, show wants (fun v s' => ∃ b, v = .bool b ∧ Q (.bool !b) s') E (.ok (.ret (.bool (items.any e)))) s from ⟨_, rfl, h⟩⟩) (fun v s' hv => ?_) fun _ _ e => e))
  obtain ⟨b, rfl, hq⟩ := hv
  exact wpAny_truthy_bool (wpAny_pure hq)
end
end PySem.SeqAt
namespace LW
open PySem PySem.Spec L2 PyProof.Rows
/-! ### by values -/
def hitV {κ : Type} [DecidableEq κ] (kws : List (κ × V)) (q : κ × V) : Bool := match valV kws q.1 with
  | some w => eqV q.2 w
  | none => false
theorem hitV_no {κ : Type} [DecidableEq κ] {kws : List (κ × V)} {q : κ × V} (e : valV kws q.1 = none) : hitV kws q = false := by unfold hitV; rw [e]
theorem hitV_yes {κ : Type} [DecidableEq κ] {kws : List (κ × V)} {q : κ × V} {w : V} (e : valV kws q.1 = some w) : hitV kws q = eqV q.2 w := by unfold hitV; rw [e]
def eqKV {κ : Type} [DecidableEq κ] (kvs kws : List (κ × V)) : Bool := kvs.length == kws.length && kvs.all (hitV kws)
def flatK {κ : Type} (kvs : List (κ × V)) : Bool := kvs.all fun q => flatV q.2
/-- the dicts at a and c are equal, or not -/
def EqDV (H : Hp) (a c : Addr) (b : Bool) : Prop := (∃ kvs kws, Rd H a (.dK kvs) ∧ Rd H c (.dK kws) ∧ flatK kvs = true ∧ flatK kws = true ∧ b = eqKV kvs kws) ∨
  ∃ kvs kws, Rd H a (.dT kvs) ∧ Rd H c (.dT kws) ∧ flatK kvs = true ∧ flatK kws = true ∧ b = eqKV kvs kws
theorem flat_val {κ : Type} [DecidableEq κ] {kws : List (κ × V)} (h : flatK kws = true) {k : κ} {v : V} (e : valV kws k = some v) : flatV v = true := by
  unfold valV at e
  cases hf : kws.find? (fun kv => decide (kv.1 = k)) with
  | none => rw [hf] at e; cases e
  | some q =>
    rw [hf] at e
    cases e
    exact List.all_eq_true.mp h q (List.mem_of_find?_eq_some hf)
section
variable {X : Cx} {pins : List (Addr × Obj)} {σ : L2.St} {H : Hp} {s : Shared}
theorem hitsK {A : Around} {kws : List (Key × V)} {ws : List (Key × Value)} (rw_ : KV kws ws) (fw : flatK kws = true) : ∀ {kvs : List (Key × V)} {vs : List (Key × Value)}, KV kvs vs → flatK kvs = true →
    PySem.W.KeqHits A s ws vs (kvs.all (hitV kws))
  | _, _, .nil, _ => .nil
  | p :: kvs, q :: vs, .cons ⟨h1, h2⟩ t, f => by
    unfold flatK at f
    rw [List.all_cons, Bool.and_eq_true] at f
    have ih := hitsK (A := A) rw_ fw t f.2
    have rel := rw_.val p.1
    rw [List.all_cons]
    obtain ⟨k, v⟩ := q
    have h1 : p.1 = k := h1
    subst h1
    cases hv : valV kws p.1 with
    | none =>
      rw [hitV_no hv, Bool.false_and]
      exact .miss (RelO.none_of (by rw [← hv]; exact rw_.val p.1))
    | some y =>
      obtain ⟨u, hu, ru⟩ := RelO.some_of (v := y) (o := valueAt ws p.1) (by rw [← hv]; exact rw_.val p.1)
      rw [hitV_yes hv]
      exact .hit hu (eqAt_V h2 ru f.1 (flat_val fw hv)) ih
theorem hitsT {A : Around} {kws : List (List Key × V)} {ws : List (List Key × Addr × Value)} (rw_ : KT H kws ws) (fw : flatK kws = true) : ∀ {kvs : List (List Key × V)} {vs : List (List Key × Addr × Value)}, KT H kvs vs → flatK kvs = true →
    PySem.W.HitsH A s ws vs (kvs.all (hitV kws))
  | _, _, .nil, _ => .nil
  | p :: kvs, q :: vs, .cons ⟨h1, _, h2⟩ t, f => by
    unfold flatK at f
    rw [List.all_cons, Bool.and_eq_true] at f
    have ih := hitsT (A := A) rw_ fw t f.2
    rw [List.all_cons]
    obtain ⟨k, b, v⟩ := q
    have h1 : p.1 = k := h1
    subst h1
    cases hv : valV kws p.1 with
    | none =>
      rw [hitV_no hv, Bool.false_and]
      have := RelO.none_of (by rw [← hv]; exact rw_.val p.1)
      exact .miss (Option.map_eq_none_iff.mp this)
    | some y =>
      obtain ⟨u, hu, ru⟩ := RelO.some_of (v := y) (o := (atKey ws p.1).map (·.2)) (by rw [← hv]; exact rw_.val p.1)
      obtain ⟨⟨c, u'⟩, h3, rfl⟩ := Option.map_eq_some_iff.mp hu
      rw [hitV_yes hv]
      exact .hit h3 (eqAt_V h2 ru f.1 (flat_val fw hv)) ih
theorem eqD_run (I : Inv X pins σ H s) {A : Around} (hu : A.units + 2 < cLine) {a c : Addr} {b : Bool} (h : EqDV H a c b) {Q E : Value → Shared → Prop} :
    (Q (.bool b) s → wpAny (model X.prog X.w) A (compareOp .Eq (.ref a) (.ref c)) Q E s) ∧ (Q (.bool !b) s → wpAny (model X.prog X.w) A (compareOp .NotEq (.ref a) (.ref c)) Q E s) := by
  rcases h with ⟨kvs, kws, h1, h2, f1, f2, rfl⟩ | ⟨kvs, kws, h1, h2, f1, f2, rfl⟩
  · obtain ⟨z1, l1, vs, r1, d1⟩ := dk_rd I.hok h1
    obtain ⟨z2, l2, ws, r2, d2⟩ := dk_rd I.hok h2
    have e : eqKV kvs kws = (vs.length == ws.length && kvs.all (hitV kws)) := by unfold eqKV; rw [r1.length, r2.length]
    rw [e]
    exact ⟨fun q => PySem.W.keq_eq l1 l2 d1 d2 (by omega) (fun _ => hitsK r2 f2 r1 f1) q, fun q => PySem.W.keq_ne l1 l2 d1 d2 (by omega) (fun _ => hitsK r2 f2 r1 f1) q⟩
  · obtain ⟨z1, l1, vs, r1, d1⟩ := dt_rd I.hok h1
    obtain ⟨z2, l2, ws, r2, d2⟩ := dt_rd I.hok h2
    have e : eqKV kvs kws = (vs.length == ws.length && kvs.all (hitV kws)) := by unfold eqKV; rw [Paired.length r1, Paired.length r2]
    rw [e]
    exact ⟨fun q => PySem.W.eqH (tupleKind_room_in1 (by omega)) l1 l2 d1 d2 (by omega) (fun _ => hitsT r2 f2 r1 f1) q, fun q => PySem.W.neH (tupleKind_room_in1 (by omega)) l1 l2 d1 d2 (by omega) (fun _ => hitsT r2 f2 r1 f1) q⟩
end
end LW

/-! LwNc: == and != of dicts with flat values, as data; lists of them. -/
namespace LW
open PySem PySem.Spec L2 PyProof.Rows
def getG {κ : Type} [DecidableEq κ] : List κ → List D → κ → Option D
  | k :: ks, d :: ds, x => if k = x then some d else getG ks ds x
  | _, _, _ => none
def flatD : D → Bool
  | .non => true
  | .bl _ => true
  | .int _ => true
  | .str _ => true
  | _ => false
def eqFD : D → D → Bool
  | .non, .non => true
  | .bl a, .bl b => a == b
  | .bl a, .int b => (if a then 1 else 0) == b
  | .int a, .bl b => a == (if b then 1 else 0)
  | .int a, .int b => a == b
  | .str a, .str b => a == b
  | _, _ => false
def hitD {κ : Type} [DecidableEq κ] (ls : List κ) (ys : List D) (p : κ × D) : Bool := match getG ls ys p.1 with
  | some w => eqFD p.2 w
  | none => false
def eqGD {κ : Type} [DecidableEq κ] (ks : List κ) (xs : List D) (ls : List κ) (ys : List D) : Bool := ks.length == ls.length && (ks.zip xs).all (hitD ls ys)
def eqDD : D → D → Option Bool
  | .dic ks xs, .dic ls ys => if xs.all flatD = true ∧ ys.all flatD = true then some (eqGD ks xs ls ys) else none
  | .dit ks xs, .dit ls ys => if xs.all flatD = true ∧ ys.all flatD = true then some (eqGD ks xs ls ys) else none
  | _, _ => none
section
variable {mg : Glob} {N : Prot} {c : List Addr} {H : Hp} {st : Sto}
theorem flat_rep {v : V} {d : D} (r : Rep mg N c H v d) (f : flatD d = true) : flatV v = true := by
  cases r <;> first | rfl | cases f
theorem eqF_rep {v w : V} {d e : D} (r : Rep mg N c H v d) (q : Rep mg N c H w e) (f : flatD d = true) (g : flatD e = true) : eqV v w = eqFD d e := by
  cases r <;> first | (cases q <;> first | rfl | cases g) | cases f
theorem flats_rep {κ : Type} : ∀ {kvs : List (κ × V)} {xs : List D}, RepL mg N c H (kvs.map (·.2)) xs → xs.all flatD = true → flatK kvs = true
  | [], _, _, _ => rfl
  | kv :: kvs, _, .cons r t, h => by
    rw [List.all_cons, Bool.and_eq_true] at h
    unfold flatK
    rw [List.all_cons, flat_rep r h.1]
    exact flats_rep t h.2
theorem getG_rep {κ : Type} [DecidableEq κ] {k : κ} : ∀ {kvs : List (κ × V)} {xs : List D}, RepL mg N c H (kvs.map (·.2)) xs → (getG (kvs.map (·.1)) xs k = none ∧ valV kvs k = none) ∨ ∃ d v, getG (kvs.map (·.1)) xs k = some d ∧ valV kvs k = some v ∧ Rep mg N c H v d ∧ d ∈ xs
  | [], _, .nil => .inl ⟨rfl, rfl⟩
  | kv :: kvs, _, .cons (d := d) r t => by
    rw [List.map_cons]
    unfold getG
    by_cases hk : kv.1 = k
    · rw [if_pos hk]
      exact .inr ⟨d, kv.2, rfl, valV_pos hk, r, List.mem_cons_self⟩
    · rw [if_neg hk, valV_neg hk]
      rcases getG_rep (k := k) t with h | ⟨d', v, h1, h2, h3, h4⟩
      · exact .inl h
      · exact .inr ⟨d', v, h1, h2, h3, List.mem_cons_of_mem _ h4⟩
theorem eqG_rep {κ : Type} [DecidableEq κ] {kws : List (κ × V)} {ys : List D} (q : RepL mg N c H (kws.map (·.2)) ys) (g : ys.all flatD = true) : ∀ {kvs : List (κ × V)} {xs : List D}, RepL mg N c H (kvs.map (·.2)) xs → xs.all flatD = true →
    kvs.all (hitV kws) = ((kvs.map (·.1)).zip xs).all (hitD (kws.map (·.1)) ys)
  | [], _, .nil, _ => rfl
  | kv :: kvs, _, .cons (d := d) r t, h => by
    rw [List.all_cons, Bool.and_eq_true] at h
    rw [List.map_cons, List.zip_cons_cons, List.all_cons, List.all_cons, eqG_rep q g t h.2]
    congr 1
    rcases getG_rep (k := kv.1) q with ⟨h1, h2⟩ | ⟨e, v, h1, h2, h3, h4⟩
    · rw [hitV_no h2]
      unfold hitD
      rw [h1]
    · rw [hitV_yes h2]
      unfold hitD
      rw [h1]
      exact eqF_rep r h3 h.1 (List.all_eq_true.mp g e h4)
theorem eqDD_rel {u v : V} {x y : D} {b : Bool} (p : RepT mg N c H u x) (q : RepT mg N c H v y) (e : eqDD x y = some b) : ∃ a d, u = .ref a ∧ v = .ref d ∧ EqDV H a d b := by
  unfold eqDD at e
  split at e
  · split at e
    · rename_i hf
      cases e
      obtain ⟨a, kvs, rfl, h1, rfl, r1⟩ := p.dic
      obtain ⟨d, kws, rfl, h2, rfl, r2⟩ := q.dic
      refine ⟨a, d, rfl, rfl, .inl ⟨kvs, kws, h1, h2, flats_rep r1 hf.1, flats_rep r2 hf.2, ?_⟩⟩
      unfold eqGD eqKV
      rw [List.length_map, List.length_map, eqG_rep r2 hf.2 r1 hf.1]
    · cases e
  · split at e
    · rename_i hf
      cases e
      obtain ⟨a, kvs, rfl, h1, rfl, r1⟩ := p.dit
      obtain ⟨d, kws, rfl, h2, rfl, r2⟩ := q.dit
      refine ⟨a, d, rfl, rfl, .inr ⟨kvs, kws, h1, h2, flats_rep r1 hf.1, flats_rep r2 hf.2, ?_⟩⟩
      unfold eqGD eqKV
      rw [List.length_map, List.length_map, eqG_rep r2 hf.2 r1 hf.1]
    · cases e
  · cases e
end
/-! ### two dicts -/
def rEqDD (neg : Bool) : R2 := fun x y H Q => ∃ a c b, x = .ref a ∧ y = .ref c ∧ EqDV H a c b ∧ Q (.bl (if neg then !b else b)) H
theorem op_eqDD {X : Cx} (hu : X.A.units + 2 < cLine) : OpR X (compareOp .Eq) (rEqDD false) := by
  intro pins s σ H x y v u Q I rx ry h
  obtain ⟨a, c, b, rfl, rfl, h, q⟩ := h
  cases rx
  cases ry
  exact (eqD_run I hu h).1 ⟨.bl b, H, I, rfl, q⟩
theorem op_neDD {X : Cx} (hu : X.A.units + 2 < cLine) : OpR X (compareOp .NotEq) (rEqDD true) := by
  intro pins s σ H x y v u Q I rx ry h
  obtain ⟨a, c, b, rfl, rfl, h, q⟩ := h
  cases rx
  cases ry
  exact (eqD_run I hu h).2 ⟨.bl !b, H, I, rfl, q⟩
def oEqDD (neg : Bool) : D → D → Sto → Option D := fun x y _ => match eqDD x y with
  | some b => some (.bl (if neg then !b else b))
  | none => none
theorem ok_eqDD {mg : Glob} {neg : Bool} : OpOk mg (RE mg) (rEqDD neg) (oEqDD neg) := by
  intro N c H st u v x y d Q W p1 p2 e k
  unfold oEqDD at e
  split at e
  · rename_i b hb
    cases e
    obtain ⟨a, d, rfl, rfl, h⟩ := eqDD_rel p1 p2 hb
    exact ⟨a, d, b, rfl, rfl, h, k _ N c H Ex.refl W (.bl _)⟩
  · cases e
/-! ### lists of dicts; a dict in one -/
theorem rd_inj {H : Hp} {a : Addr} {u v : HO} (h1 : Rd H a u) (h2 : Rd H a v) (f1 : ∀ o w, u ≠ .frz o w) (f2 : ∀ o w, v ≠ .frz o w) : u = v := by
  rcases h1 with h1 | ⟨b, h1⟩ <;> rcases h2 with h2 | ⟨d, h2⟩ <;> rw [h1] at h2
  · exact Option.some.inj h2
  · exact absurd (Option.some.inj h2) (f1 _ _)
  · exact absurd (Option.some.inj h2).symm (f2 _ _)
  · have := Option.some.inj h2
    injection this
theorem eqDV_det {H : Hp} {a c : Addr} {b b' : Bool} (h : EqDV H a c b) (h' : EqDV H a c b') : b = b' := by
  rcases h with ⟨k1, w1, r1, s1, _, _, rfl⟩ | ⟨k1, w1, r1, s1, _, _, rfl⟩ <;> rcases h' with ⟨k2, w2, r2, s2, _, _, rfl⟩ | ⟨k2, w2, r2, s2, _, _, rfl⟩
  · have e1 := rd_inj r1 r2 (fun _ _ z => nomatch z) (fun _ _ z => nomatch z)
    have e2 := rd_inj s1 s2 (fun _ _ z => nomatch z) (fun _ _ z => nomatch z)
    cases e1
    cases e2
    rfl
  · exact absurd (rd_inj r1 r2 (fun _ _ z => nomatch z) (fun _ _ z => nomatch z)) (fun z => nomatch z)
  · exact absurd (rd_inj r1 r2 (fun _ _ z => nomatch z) (fun _ _ z => nomatch z)) (fun z => nomatch z)
  · have e1 := rd_inj r1 r2 (fun _ _ z => nomatch z) (fun _ _ z => nomatch z)
    have e2 := rd_inj s1 s2 (fun _ _ z => nomatch z) (fun _ _ z => nomatch z)
    cases e1
    cases e2
    rfl
theorem eqV_self {v : V} (f : flatV v = true) : eqV v v = true := by
  cases v <;> first | (unfold eqV; exact beq_self_eq_true _) | rfl | cases f
theorem val_self {κ : Type} [DecidableEq κ] : ∀ {kvs : List (κ × V)}, (kvs.map (·.1)).Nodup → ∀ q ∈ kvs, valV kvs q.1 = some q.2
  | [], _, _, h => by cases h
  | p :: kvs, n, q, h => by
    rw [List.map_cons, List.nodup_cons] at n
    rcases List.mem_cons.mp h with rfl | h
    · exact valV_pos rfl
    · rw [valV_neg fun e => n.1 (by rw [e]; exact List.mem_map_of_mem h)]
      exact val_self n.2 q h
theorem eqKV_self {κ : Type} [DecidableEq κ] {kvs : List (κ × V)} (n : (kvs.map (·.1)).Nodup) (f : flatK kvs = true) : eqKV kvs kvs = true := by
  unfold eqKV
  rw [beq_self_eq_true, Bool.true_and, List.all_eq_true]
  intro q hq
  rw [hitV_yes (val_self n q hq)]
  exact eqV_self (List.all_eq_true.mp f q hq)
section
variable {X : Cx} {pins : List (Addr × Obj)} {σ : L2.St} {H : Hp} {s : Shared}
theorem eqDV_self (I : Inv X pins σ H s) {a : Addr} {b : Bool} (h : EqDV H a a b) : b = true := by
  rcases h with ⟨kvs, kws, h1, h2, f, _, rfl⟩ | ⟨kvs, kws, h1, h2, f, _, rfl⟩
  · have e := rd_inj h1 h2 (fun _ _ z => nomatch z) (fun _ _ z => nomatch z)
    cases e
    obtain ⟨_, _, vs, r, d⟩ := dk_rd I.hok h1
    obtain ⟨_, _, _, _, _, _, _, _, nd⟩ := d
    exact eqKV_self (by rw [r.keys]; exact nd) f
  · have e := rd_inj h1 h2 (fun _ _ z => nomatch z) (fun _ _ z => nomatch z)
    cases e
    obtain ⟨_, _, vs, r, d⟩ := dt_rd I.hok h1
    obtain ⟨_, _, _, _, _, _, _, _, nd⟩ := d
    refine eqKV_self ?_ f
    have : ∀ {l : List (List Key × V)} {m : List (List Key × Addr × Value)}, KT H l m → l.map (·.1) = m.map (·.1) := by
      intro l m q
      induction q with
      | nil => rfl
      | cons h t ih => rw [List.map_cons, List.map_cons, ih, h.1]
    rw [this r]
    exact nd
theorem eqP_D (I : Inv X pins σ H s) {A : Around} (hu : A.units + 2 < cLine) {a c : Addr} {b : Bool} (h : EqDV H a c b) : SeqAt.EqP X.prog X.w A s (.ref a) (.ref c) b := by
  by_cases hac : a = c
  · subst hac
    rw [eqDV_self I h]
    intro E Q hq
    unfold eqBool
    refine wpAny_holding ?_
    exact wpAny_ite_split (fun _ => by first | exact wpAny_bind (wpAny_rule (wpAny_pure hq)) | exact wpAny_rule (wpAny_pure hq) | exact wpAny_pure hq) (fun hn => absurd (by simp) hn)
  · exact SeqAt.eqP_refs hac fun E Q hq => (eqD_run I hu h).1 hq
end
end LW

/-! LwNd: == of lists of dicts, a dict in a list of dicts. -/
namespace LW
open PySem PySem.Spec L2 PyProof.Rows
open Classical in
noncomputable def eAt (H : Hp) (a c : Addr) : Bool := decide (EqDV H a c true)
open Classical in
theorem eAt_of {H : Hp} {a c : Addr} {b : Bool} (h : EqDV H a c b) : eAt H a c = b := by
  unfold eAt
  cases b with
  | true => exact decide_eq_true h
  | false => exact decide_eq_false fun z => by cases eqDV_det h z
/-- items, told to be dicts -/
inductive EqDs (H : Hp) : List V → List V → List Bool → Prop where
  | nil : EqDs H [] [] []
  | cons {a c : Addr} {b : Bool} {vs us : List V} {bs : List Bool} (h : EqDV H a c b) (t : EqDs H vs us bs) : EqDs H (.ref a :: vs) (.ref c :: us) (b :: bs)
theorem EqDs.at {H : Hp} : ∀ {vs us : List V} {bs : List Bool}, EqDs H vs us bs → ∀ {j : Nat} {v u : V}, vs[j]? = some v → us[j]? = some u → ∃ a c b, v = .ref a ∧ u = .ref c ∧ bs[j]? = some b ∧ EqDV H a c b
  | _, _, _, .cons h t, 0, v, u, e1, e2 => by
    cases e1
    cases e2
    exact ⟨_, _, _, rfl, rfl, rfl, h⟩
  | _, _, _, .cons h t, j + 1, v, u, e1, e2 => EqDs.at t (j := j) (by simpa using e1) (by simpa using e2)
theorem EqDs.len {H : Hp} : ∀ {vs us : List V} {bs : List Bool}, EqDs H vs us bs → vs.length = us.length ∧ bs.length = vs.length
  | _, _, _, .nil => ⟨rfl, rfl⟩
  | _, _, _, .cons _ t => ⟨by rw [List.length_cons, List.length_cons, t.len.1], by rw [List.length_cons, List.length_cons, t.len.2]⟩
def rEqLD (K : PySem.W.Frag) : R2 := fun x y H Q => ∃ l m vs us, x = .ref l ∧ y = .ref m ∧ SqL K H l vs ∧ SqL K H m us ∧ ((vs.length ≠ us.length ∧ Q (.bl false) H) ∨ ∃ bs, EqDs H vs us bs ∧ Q (.bl (bs.all id)) H)
theorem all_range (bs : List Bool) : (List.range bs.length).all (fun j => bs.getD j false) = bs.all id := by
  rw [Bool.eq_iff_iff, List.all_eq_true, List.all_eq_true]
  constructor
  · intro h b hb
    obtain ⟨j, hj⟩ := List.getElem?_of_mem hb
    have hl := (List.getElem?_eq_some_iff.mp hj).1
    have := h j (List.mem_range.mpr hl)
    rw [List.getD_eq_getElem?_getD, hj] at this
    exact this
  · intro h j hj
    have hl := List.mem_range.mp hj
    rw [List.getD_eq_getElem?_getD, List.getElem?_eq_getElem hl]
    exact h _ (List.getElem_mem hl)
section
variable {X : Cx}
theorem op_eqLD (hu : X.A.units + 4 < cLine) : OpR X (compareOp .Eq) (rEqLD X.K) := by
  intro pins s σ H x y v u Q I rx ry h
  obtain ⟨l, m, vs, us, rfl, rfl, h1, h2, q⟩ := h
  cases rx
  cases ry
  obtain ⟨its, r1, p1, _⟩ := I.list h1
  obtain ⟨jts, r2, p2, _⟩ := I.list h2
  have l1 : its.toArray.size = vs.length := by rw [List.size_toArray, r1.length]
  have l2 : jts.toArray.size = us.length := by rw [List.size_toArray, r2.length]
  rcases q with ⟨hne, q⟩ | ⟨bs, hb, q⟩
  · exact SeqAt.RcAt.lists_lengths (plainL_is p1) (plainL_is p2) (by rw [l1, l2]; simpa using hne) (by omega) _ _ _ _ ⟨.bl false, H, I, rfl, q⟩
  · obtain ⟨hl, hbl⟩ := hb.len
    refine SeqAt.rcP_lists (e := fun j => bs.getD j false) (plainL_is p1) (plainL_is p2) (by rw [l1, l2, hl]) (by omega) (fun j h1 h2 => ?_) _ _ ?_
    · have hj1 : j < vs.length := by omega
      have hj2 : j < us.length := by omega
      obtain ⟨a, c, b, e1, e2, e3, e4⟩ := hb.at (List.getElem?_eq_getElem hj1) (List.getElem?_eq_getElem hj2)
      obtain ⟨v1, f1, g1⟩ := r1.get (List.getElem?_eq_getElem hj1)
      obtain ⟨u1, f2, g2⟩ := r2.get (List.getElem?_eq_getElem hj2)
      rw [e1] at g1
      rw [e2] at g2
      cases g1
      cases g2
      have z1 : its.toArray[j] = Value.ref a := by
        have := (List.getElem?_eq_some_iff.mp f1).2
        simpa using this
      have z2 : jts.toArray[j] = Value.ref c := by
        have := (List.getElem?_eq_some_iff.mp f2).2
        simpa using this
      rw [z1, z2, List.getD_eq_getElem?_getD, e3]
      exact eqP_D I (A := X.A.in1) (by rw [show X.A.in1.units = X.A.units + 1 from rfl]; omega) e4
    · rw [l1, ← hbl, all_range]
      exact ⟨.bl _, H, I, rfl, q⟩
def rInLD (K : PySem.W.Frag) (neg : Bool) : R2 := fun x y H Q => ∃ a l vs us bs, x = .ref a ∧ y = .ref l ∧ SqL K H l vs ∧ us = List.replicate vs.length (V.ref a) ∧ EqDs H vs us bs ∧ Q (.bl (if neg then !bs.any id else bs.any id)) H
theorem any_ev {H : Hp} {a : Addr} : ∀ {vs us : List V} {bs : List Bool} {its : List Value}, EqDs H vs us bs → us = List.replicate vs.length (V.ref a) → Vals vs its →
    (∀ z ∈ its, ∃ c b, z = Value.ref c ∧ EqDV H c a b) ∧ its.any (fun z => match z with | .ref c => eAt H c a | _ => false) = bs.any id
  | _, _, _, _, .nil, _, .nil => ⟨fun _ h => (by cases h), rfl⟩
  | _, _, _, _, .cons (a := c) (c := d) (b := b) h t, hu, .cons r rt => by
    rw [List.length_cons, List.replicate_succ] at hu
    injection hu with h1 h2
    cases h1
    cases r
    obtain ⟨h3, h4⟩ := any_ev t h2 rt
    refine ⟨fun z hz => ?_, ?_⟩
    · rcases List.mem_cons.mp hz with rfl | hz
      · exact ⟨c, b, rfl, h⟩
      · exact h3 z hz
    · rw [List.any_cons, List.any_cons, h4]
      congr 1
      exact eAt_of h
theorem op_inLD (hu : X.A.units + 4 < cLine) : OpR X (compareOp .In) (rInLD X.K false) := by
  intro pins s σ H x y v u Q I rx ry h
  obtain ⟨a, l, vs, us, bs, rfl, rfl, h1, hus, hb, q⟩ := h
  cases rx
  cases ry
  obtain ⟨its, r1, p1, _⟩ := I.list h1
  obtain ⟨k1, k2⟩ := any_ev hb hus r1
  refine SeqAt.in_listP (fun z => match z with | .ref c => eAt H c a | _ => false) (plainL_is p1) (fun z hz => ?_) ?_
  · obtain ⟨c, b, rfl, e⟩ := k1 z (by simpa using hz)
    show SeqAt.EqP _ _ _ _ _ _ (eAt H c a)
    rw [eAt_of e]
    exact eqP_D I (A := X.A.in1) (by rw [show X.A.in1.units = X.A.units + 1 from rfl]; omega) e
  · rw [show its.toArray.any (fun z => match z with | .ref c => eAt H c a | _ => false) = its.any (fun z => match z with | .ref c => eAt H c a | _ => false) by simp, k2]
    exact ⟨.bl _, H, I, rfl, q⟩
theorem op_ninLD (hu : X.A.units + 4 < cLine) : OpR X (compareOp .NotIn) (rInLD X.K true) := by
  intro pins s σ H x y v u Q I rx ry h
  obtain ⟨a, l, vs, us, bs, rfl, rfl, h1, hus, hb, q⟩ := h
  cases rx
  cases ry
  obtain ⟨its, r1, p1, _⟩ := I.list h1
  obtain ⟨k1, k2⟩ := any_ev hb hus r1
  refine SeqAt.notIn_listP (fun z => match z with | .ref c => eAt H c a | _ => false) (plainL_is p1) (fun z hz => ?_) ?_
  · obtain ⟨c, b, rfl, e⟩ := k1 z (by simpa using hz)
    show SeqAt.EqP _ _ _ _ _ _ (eAt H c a)
    rw [eAt_of e]
    exact eqP_D I (A := X.A.in1) (by rw [show X.A.in1.units = X.A.units + 1 from rfl]; omega) e
  · rw [show its.toArray.any (fun z => match z with | .ref c => eAt H c a | _ => false) = its.any (fun z => match z with | .ref c => eAt H c a | _ => false) by simp, k2]
    exact ⟨.bl _, H, I, rfl, q⟩
end
/-! ### as data -/
def eqLD : List D → List D → Option (List Bool)
  | [], [] => some []
  | x :: xs, y :: ys => match eqDD x y with
    | some b => match eqLD xs ys with
      | some bs => some (b :: bs)
      | none => none
    | none => none
  | _, _ => none
theorem eqLD_rel {mg : Glob} {N : Prot} {c : List Addr} {H : Hp} : ∀ {vs us : List V} {xs ys : List D} {bs : List Bool}, RepL mg N c H vs xs → RepL mg N c H us ys → eqLD xs ys = some bs → EqDs H vs us bs
  | _, _, _, _, _, .nil, .nil, e => by cases e; exact .nil
  | _, _, _, _, _, .cons r t, .cons r2 t2, e => by
    unfold eqLD at e
    split at e
    · rename_i b hb
      split at e
      · rename_i bs hbs
        cases e
        obtain ⟨a, d, rfl, rfl, h⟩ := eqDD_rel (.inl r) (.inl r2) hb
        exact .cons h (eqLD_rel t t2 hbs)
      · cases e
    · cases e
  | _, _, _, _, _, .nil, .cons _ _, e => by cases e
  | _, _, _, _, _, .cons _ _, .nil, e => by cases e
def oEqLD : D → D → Sto → Option D := fun x y st => match lstR st x, lstR st y with
  | some xs, some ys => if xs.length = ys.length then (match eqLD xs ys with
    | some bs => some (.bl (bs.all id))
    | none => none) else some (.bl false)
  | _, _ => none
theorem ok_eqLD {mg : Glob} : OpOk mg (RE mg) (rEqLD mg.K) oEqLD := by
  intro N c H st u v x y d Q W p1 p2 e k
  unfold oEqLD at e
  split at e
  · rename_i xs ys hx hy
    obtain ⟨l, vs, rfl, h1, r1⟩ := RepT.read W p1 hx
    obtain ⟨m, us, rfl, h2, r2⟩ := RepT.read W p2 hy
    split at e
    · split at e
      · rename_i bs hb
        cases e
        exact ⟨l, m, vs, us, rfl, rfl, h1, h2, .inr ⟨bs, eqLD_rel r1 r2 hb, k _ N c H Ex.refl W (.bl _)⟩⟩
      · cases e
    · rename_i hne
      cases e
      exact ⟨l, m, vs, us, rfl, rfl, h1, h2, .inl ⟨by rw [r1.length, r2.length]; exact hne, k _ N c H Ex.refl W (.bl _)⟩⟩
  · cases e
def oInLD (neg : Bool) : D → D → Sto → Option D := fun x y st => match lstR st y with
  | some xs => (match eqLD xs (List.replicate xs.length x) with
    | some bs => some (.bl (if neg then !bs.any id else bs.any id))
    | none => none)
  | none => none
theorem isDicT {mg : Glob} {N : Prot} {c : List Addr} {H : Hp} {st : Sto} {u : V} {x : D} {z : D} {b : Bool} (e : eqDD z x = some b) (p : RepT mg N c H u x) : Rep mg N c H u x := by
  rcases p with p | ⟨_, _, _, _, rfl, _⟩
  · exact p
  · unfold eqDD at e
    split at e
    · rename_i h
      cases h
    · rename_i h
      cases h
    · cases e
theorem repl_rep {mg : Glob} {N : Prot} {c : List Addr} {H : Hp} {u : V} {x : D} (r : Rep mg N c H u x) : ∀ n : Nat, RepL mg N c H (List.replicate n u) (List.replicate n x)
  | 0 => .nil
  | n + 1 => .cons r (repl_rep r n)
theorem ok_inLD {mg : Glob} {neg : Bool} : OpOk mg (RE mg) (fun x y H Q => rInLD mg.K neg x y H Q ∨ ∃ l, y = .ref l ∧ SqL mg.K H l [] ∧ Q (.bl neg) H) (oInLD neg) := by
  intro N c H st u v x y d Q W p1 p2 e k
  unfold oInLD at e
  split at e
  · rename_i xs hx
    obtain ⟨l, vs, rfl, h1, r1⟩ := RepT.read W p2 hx
    split at e
    · rename_i bs hb
      cases e
      cases hxs : xs with
      | nil =>
        subst hxs
        cases r1
        cases hb
        exact .inr ⟨l, rfl, h1, by cases neg <;> exact k _ N c H Ex.refl W (.bl _)⟩
      | cons z zs =>
        subst hxs
        have hz : ∃ b, eqDD z x = some b := by
          rw [List.length_cons, List.replicate_succ] at hb
          unfold eqLD at hb
          split at hb
          · rename_i b hb'
            exact ⟨b, hb'⟩
          · cases hb
        obtain ⟨b0, hz⟩ := hz
        have p1' := isDicT (st := st) hz p1
        have hd := eqLD_rel r1 (repl_rep p1' _) hb
        obtain ⟨v0, hv0, rz⟩ := r1.get (i := 0) (d := z) rfl
        obtain ⟨a, d, rfl, rfl, _⟩ := eqDD_rel (.inl rz) (.inl p1') hz
        exact .inl ⟨d, l, _, _, bs, rfl, rfl, h1, by rw [r1.length], hd, k _ N c H Ex.refl W (.bl _)⟩
    · cases e
  · cases e
/-! ### the rules -/
theorem op_inLD2 {X : Cx} (hu : X.A.units + 4 < cLine) : OpR X (compareOp .In) (fun x y H Q => rInLD X.K false x y H Q ∨ ∃ l, y = .ref l ∧ SqL X.K H l [] ∧ Q (.bl false) H) := by
  intro pins s σ H x y v u Q I rx ry h
  rcases h with h | ⟨l, rfl, h1, q⟩
  · exact op_inLD hu pins s σ H x y v u Q I rx ry h
  · cases ry
    obtain ⟨its, r1, p1, _⟩ := I.list h1
    cases r1
    exact SeqAt.in_listP (fun _ => false) (plainL_is p1) (fun z hz => by simp at hz) ⟨.bl false, H, I, (show RelV (V.bl false) (Value.bool _) by rw [show (([] : List Value).toArray.any fun _ => false) = false by simp]; rfl), q⟩
theorem op_ninLD2 {X : Cx} (hu : X.A.units + 4 < cLine) : OpR X (compareOp .NotIn) (fun x y H Q => rInLD X.K true x y H Q ∨ ∃ l, y = .ref l ∧ SqL X.K H l [] ∧ Q (.bl true) H) := by
  intro pins s σ H x y v u Q I rx ry h
  rcases h with h | ⟨l, rfl, h1, q⟩
  · exact op_ninLD hu pins s σ H x y v u Q I rx ry h
  · cases ry
    obtain ⟨its, r1, p1, _⟩ := I.list h1
    cases r1
    exact SeqAt.notIn_listP (fun _ => false) (plainL_is p1) (fun z hz => by simp at hz) ⟨.bl true, H, I, (show RelV (V.bl true) (Value.bool _) by rw [show (([] : List Value).toArray.any fun _ => false) = false by simp]; rfl), q⟩
section
variable {mg : Glob} {X : Cx} {a b : Expr} {pos : Pos} {fa fb : SE}
theorem d_eqDD (hu : X.A.units + 65 < cLine) (ha : PE X a (tP mg fa)) (hb : PE X b (tP mg fb)) : PE X (.Compare a [.Eq] [b] pos) (tE mg (eOp (oEqDD false) fa fb)) := d_cmp (op_eqDD (by omega)) ok_eqDD back_E ha hb (nomark _)
theorem d_neDD (hu : X.A.units + 65 < cLine) (ha : PE X a (tP mg fa)) (hb : PE X b (tP mg fb)) : PE X (.Compare a [.NotEq] [b] pos) (tE mg (eOp (oEqDD true) fa fb)) := d_cmp (op_neDD (by omega)) ok_eqDD back_E ha hb (nomark _)
theorem d_eqLD (hu : X.A.units + 65 < cLine) (ha : PE X a (tP mg fa)) (hb : PE X b (tP mg fb)) (hK : X.K = mg.K := by rfl) : PE X (.Compare a [.Eq] [b] pos) (tE mg (eOp oEqLD fa fb)) := d_cmp (hK ▸ op_eqLD (by omega)) ok_eqLD back_E ha hb (nomark _)
theorem d_inLD (hu : X.A.units + 65 < cLine) (ha : PE X a (tP mg fa)) (hb : PE X b (tP mg fb)) (hK : X.K = mg.K := by rfl) (hn : lastMarks [.In] [b] = false := by rfl) : PE X (.Compare a [.In] [b] pos) (tE mg (eOp (oInLD false) fa fb)) := d_cmp (hK ▸ op_inLD2 (by omega)) ok_inLD back_E ha hb hn
theorem d_ninLD (hu : X.A.units + 65 < cLine) (ha : PE X a (tP mg fa)) (hb : PE X b (tP mg fb)) (hK : X.K = mg.K := by rfl) (hn : lastMarks [.NotIn] [b] = false := by rfl) : PE X (.Compare a [.NotIn] [b] pos) (tE mg (eOp (oInLD true) fa fb)) := d_cmp (hK ▸ op_ninLD2 (by omega)) ok_inLD back_E ha hb hn
end
end LW

/-! LwNe: sorted(xs) of comparable data (numbers, texts, tuples and lists of these). -/
namespace LW
open PySem PySem.Spec L2 PyProof.Rows
/-- a list of comparable things, told by what they read as -/
def rSortX (K : PySem.W.Frag) : List V → Hp → VK → Prop := fun xs H Q => ∃ (l : Addr) (bs : List (V × PyData)), xs = [.ref l] ∧ SqL K H l (bs.map (·.1)) ∧ (∀ b ∈ bs, Dp K H b.1 b.2) ∧ PySem.W.AllAlike (bs.map (·.2)) ∧ PySem.W.Sortable (bs.map (·.2)) ∧ (∀ b ∈ bs, b.2.depth ≤ 64) ∧
  ∀ p, H p = none → Q (.ref p) (upd H p (.lst ((bs.mergeSort (PySem.W.dataLe false (·.2))).map (·.1))))
theorem each_val {bs : List (V × PyData)} : ∀ {its : List Value}, Vals (bs.map (·.1)) its → PySem.W.EachIs (fun (v : Value) (b : V × PyData) => RelV b.1 v) its bs := by
  induction bs with
  | nil => intro its r; cases r; exact .nil
  | cons b bs ih =>
    intro its r
    cases r with
    | cons h t => exact .cons h (ih t)
theorem val_each {bs : List (V × PyData)} {its : List Value} (h : PySem.W.EachIs (fun (v : Value) (b : V × PyData) => RelV b.1 v) its bs) : Vals (bs.map (·.1)) its := by
  induction h with
  | nil => exact .nil
  | cons h t ih => exact .cons h ih
theorem each_reads {X : Cx} {pins : List (Addr × Obj)} {σ : L2.St} {H : Hp} {s : Shared} (I : Inv X pins σ H s) {bs : List (V × PyData)} : ∀ {its : List Value}, Vals (bs.map (·.1)) its → (∀ b ∈ bs, Dp X.K H b.1 b.2) → PySem.W.EachIs (fun (v : Value) (b : V × PyData) => ∃ as, Reads s.heap v b.2 as) its bs := by
  induction bs with
  | nil => intro its r _; cases r; exact .nil
  | cons b bs ih =>
    intro its r h
    cases r with
    | cons r1 t => exact .cons (Dp.reads I _ _ _ (h b List.mem_cons_self) r1) (ih t fun c hc => h c (List.mem_cons_of_mem _ hc))
theorem cr_sortX {X : Cx} (hu : X.A.units + 80 < cLine) : CallR X (.builtin "sorted") (rSortX X.K) := by
  intro pins s σ H xs us Q I r h
  obtain ⟨l, bs, rfl, hl, hd, hal, hk, hdep, q⟩ := h
  obtain ⟨u, rfl, ru⟩ := vals1 r
  obtain rfl : u = Value.ref l := ru
  obtain ⟨its, rv, pl, hlen⟩ := I.list hl
  have hbl : bs.length = its.length := by rw [← rv.length, List.length_map]
  refine PySem.W.sorted_data (enc := (·.2)) (R := fun (v : Value) (b : V × PyData) => RelV b.1 v) (plainL_is pl) (each_val rv) (each_reads I rv hd) hal hk (by rw [hbl, ← rv.length]; exact hlen) (fun b hb => by have := hdep b hb; omega) fun out hout ho => ?_
  obtain ⟨ep, he⟩ := PyProof.Rows.sortedAll_at s.heap its out.toArray
  have hfresh := I.hok.fresh (Nat.le_succ s.heap.objs.size)
  refine ⟨.ref _, upd H (s.heap.objs.size + 1) (.lst ((bs.mergeSort (PySem.W.dataLe false (·.2))).map (·.1))), I.laid (t' := s.toks) (fun _ _ => PyProof.Rows.sortedAll_old) (Nat.le_succ _) ⟨?_, out, ep, val_each ho, he⟩, rfl, q _ hfresh⟩
  rw [List.length_map, List.length_mergeSort, hbl, ← rv.length]
  exact hlen
/-! ### as data -/
def encD (st : Sto) (d : D) : PyData := (toPy 60 st d).getD .none
def alikes : List PyData → Bool := fun ps => ps.all fun p => ps.all fun q => PySem.W.alike p q
def tupB : PyData → Bool
  | .tuple (_ :: _) => true
  | _ => false
def othB : PyData → Bool
  | .none => false
  | .tuple _ => false
  | _ => true
def sortB (ps : List PyData) : Bool := ps.all tupB || ps.all othB
def gSortX : List D → Sto → Option (List D) := fun ds st => match ds with
  | [x] => match lstR st x with
    | some xs => if (xs.all fun d => (toPy 60 st d).isSome) = true ∧ alikes (xs.map (encD st)) = true ∧ sortB (xs.map (encD st)) = true then some (xs.mergeSort (PySem.W.dataLe false (encD st))) else none
    | none => none
  | _ => none
theorem alikes_ok {ps : List PyData} (h : alikes ps = true) : PySem.W.AllAlike ps := fun d hd e he => List.all_eq_true.mp (List.all_eq_true.mp h d hd) e he
theorem sortB_ok {ps : List PyData} (h : sortB ps = true) : PySem.W.Sortable ps := by
  unfold sortB at h
  rcases Bool.or_eq_true_iff.mp h with h | h
  · refine .inl fun d hd => ?_
    have := List.all_eq_true.mp h d hd
    unfold tupB at this
    split at this
    · exact ⟨_, _, rfl⟩
    · cases this
  · refine .inr fun d hd => ?_
    have := List.all_eq_true.mp h d hd
    unfold othB at this
    split at this
    · cases this
    · cases this
    · rename_i h1 h2
      exact ⟨h1, h2⟩
theorem repL_of {mg : Glob} {N : Prot} {c : List Addr} {H : Hp} : ∀ {ws : List (V × D)}, (∀ w ∈ ws, Rep mg N c H w.1 w.2) → RepL mg N c H (ws.map (·.1)) (ws.map (·.2))
  | [], _ => .nil
  | w :: ws, h => .cons (h w List.mem_cons_self) (repL_of fun z hz => h z (List.mem_cons_of_mem _ hz))
theorem repL_pairs {mg : Glob} {N : Prot} {c : List Addr} {H : Hp} : ∀ {vs : List V} {xs : List D}, RepL mg N c H vs xs → ∃ ws : List (V × D), ws.map (·.1) = vs ∧ ws.map (·.2) = xs ∧ ∀ w ∈ ws, Rep mg N c H w.1 w.2
  | _, _, .nil => ⟨[], rfl, rfl, fun w hw => by cases hw⟩
  | _, _, .cons (v := v) (d := d) r t => by
    obtain ⟨ws, h1, h2, h3⟩ := repL_pairs t
    refine ⟨(v, d) :: ws, by rw [List.map_cons, h1], by rw [List.map_cons, h2], fun w hw => ?_⟩
    rcases List.mem_cons.mp hw with rfl | hw
    · exact r
    · exact h3 w hw
theorem ok_sortX {mg : Glob} : BiOk mg (RN mg) (rSortX mg.K) gSortX := by
  intro N c H st us ds d Q W p q k
  unfold gSortX at q
  split at q
  · rename_i x
    split at q
    · rename_i xs hx
      split at q
      · rename_i hc
        cases q
        obtain ⟨hc1, hc2, hc3⟩ := hc
        obtain ⟨u, rfl, h⟩ := tl1 p
        obtain ⟨l, vs, rfl, ha, r⟩ := RepT.read W h hx
        obtain ⟨ws, rfl, rfl, hw⟩ := repL_pairs r
        have e1 : (ws.map fun w => (w.1, encD st w.2)).map (·.1) = ws.map (·.1) := by rw [List.map_map]; rfl
        have e2 : (ws.map fun w => (w.1, encD st w.2)).map (·.2) = (ws.map (·.2)).map (encD st) := by rw [List.map_map, List.map_map]; rfl
        have hd : ∀ w ∈ ws, ∃ p, toPy 60 st w.2 = some p ∧ encD st w.2 = p := fun w h => by
          have := List.all_eq_true.mp hc1 w.2 (List.mem_map_of_mem h)
          obtain ⟨p, hp⟩ := Option.isSome_iff_exists.mp this
          exact ⟨p, hp, by unfold encD; rw [hp]; rfl⟩
        have m1 : ((ws.map fun w => (w.1, encD st w.2)).mergeSort (PySem.W.dataLe false (·.2))).map (·.1) = (ws.mergeSort (PySem.W.dataLe false fun w => encD st w.2)).map (·.1) := by
          rw [← List.map_mergeSort (r := PySem.W.dataLe false fun w : V × D => encD st w.2) (f := fun w : V × D => (w.1, encD st w.2)) (fun a _ b _ => rfl), List.map_map]
          rfl
        have m2 : (ws.map (·.2)).mergeSort (PySem.W.dataLe false (encD st)) = (ws.mergeSort (PySem.W.dataLe false fun w => encD st w.2)).map (·.2) := by
          rw [List.map_mergeSort (r := PySem.W.dataLe false fun w : V × D => encD st w.2) (s := PySem.W.dataLe false (encD st)) (f := fun w : V × D => w.2) (fun a _ b _ => rfl)]
        refine ⟨l, ws.map fun w => (w.1, encD st w.2), rfl, by rw [e1]; exact ha, fun b hb => ?_, by rw [e2]; exact alikes_ok hc2, by rw [e2]; exact sortB_ok hc3, fun b hb => ?_, fun p hp => ?_⟩
        · obtain ⟨w, hw', rfl⟩ := List.mem_map.mp hb
          obtain ⟨p, h1, h2⟩ := hd w hw'
          show Dp _ _ w.1 (encD st w.2)
          rw [h2]
          exact dp_T W (.inl (hw w hw')) h1
        · obtain ⟨w, hw', rfl⟩ := List.mem_map.mp hb
          obtain ⟨p, h1, h2⟩ := hd w hw'
          show (encD st w.2).depth ≤ 64
          rw [h2]
          exact SeqAt.depth_of_shaped (toPy_shaped h1)
        · rw [m1]
          refine k _ _ _ _ (Ex.laidN W hp) (W.laidN hp) ?_
          rw [m2]
          exact RN.laid W hp (repL_of fun w hm => hw w ((List.mergeSort_perm _ _).mem_iff.mp hm))
      · cases q
    · cases q
  · cases q
theorem d_sortX {mg : Glob} {X : Cx} {e : Expr} {es : List Expr} {p pos : Pos} {f : SA} (hu : X.A.units + 80 < cLine) (hm : X.mg "sorted" = none) (ha : PA X (e :: es) (tAP mg f)) (hg : Gl X "sorted" := by rfl) (he : starEach (e :: es) X.env = (false, eval e X.env) :: starEach es X.env := by rfl) (hpl : (backTo pos (starEach es X.env)).any (·.1) = false := by rfl) (hK : X.K = mg.K := by rfl) : PE X (.Call (.Name "sorted" p) (e :: es) [] pos) (tL mg (eBi gSortX f)) :=
  d_bi (hK ▸ cr_sortX hu) ok_sortX back_N hg hm (by decide +kernel) ha (by decide) (by decide) he hpl
end LW

/-! LwNf: {k: v for ..} with keys that are tuples. -/
namespace L2
open PySem PySem.Spec PyProof.Rows
/-- d[k] = v by a comprehension, k a tuple -/
theorem d_dictSetT {X : Cx} {pins : List (Addr × Obj)} {σ : St} {H : Hp} {s : Shared} {E : Value → Shared → Prop} {D b : Addr} {kvs : List (List Key × V)} {k : List Key} {v : V} {u r : Value} {Q : Unit → Shared → Prop} (hu : X.A.units < cLine) (I : Inv X pins σ H s) (eb : H b = some (.tup (k.map kV))) (hD : H D = some (.dT kvs)) (hz : kvs.length < sizeLine)
    (ry : RelV (.ref b) u) (rv : RelV v r) (h : ∀ s', Inv X pins σ (upd H D (.dT (putK kvs k v))) s' → Q () s') : wpAny (model X.prog X.w) X.A (dictSet D u r) Q E s := by
  cases (show u = Value.ref b from ry)
  obtain ⟨z, hd, xs, rel, dd⟩ := dt_of I.hok hD
  have hzv : xs.length ≤ sizeLine := by rw [← Paired.length rel]; exact z
  have hl : (putK kvs k v).length ≤ sizeLine := by have := length_putK kvs k v; omega
  refine wpAny_dictSet_heap (knd := tupleKind (mixKind X.prog X.w)) (hsz := hzv) hu (key_of I.hok eb) dd fun h' dd' hs => h _ ?_
  obtain ⟨q, es, ep, hq, h2, h3, h4, _, h5⟩ := dd'
  refine d_write I (by rw [hD]; exact True.intro) hs ⟨q, hq⟩ ⟨hl, hd, _, (rel.put k eb rv).keeps fun c ys ec => ?_, q, es, ep, hq, h2, h3, h4, h5⟩
  rw [upd_ne (ne_of ec hD (fun z => nomatch z))]
  exact ec
section
variable {X : Cx}
/-- {k: v for target in iter if ..}, keys tuples: D the new dict -/
def tDcT (wi : TI) (g : TG) (tt : TT) (tk tv : TE) (vs : List Nat) : TE := fun σ H Q => wi σ H fun J H1 => ∀ D, H1 D = none → ∃ W : Nat → Nat → Hp → Prop, (∃ m, W 0 m (upd H1 D (.dT []))) ∧ ∀ i m H, W i m H →
  (J.stop i H ∧ Q (.ref D) H) ∨ (J.go i H ∧ ∃ Nx : Hp → Prop, (∀ H', Nx H' → ∃ m', m' < m ∧ W (i + 1) m' H') ∧ ∀ x H', J.yld i H x H' → g x (wipe σ vs) H' fun σ2 H2 => wipe σ2 vs = wipe σ vs ∧ tt σ2 H2 fun b H3 =>
    if b = true then tk σ2 H3 fun y H4 => tv σ2 H4 fun z H5 => ∃ kvs k b, y = .ref b ∧ H5 b = some (.tup (k.map kV)) ∧ H5 D = some (.dT kvs) ∧ kvs.length < sizeLine ∧ Nx (upd H5 D (.dT (putK kvs k z))) else Nx H3)
theorem dc_coreT {pins : List (Addr × Obj)} {s : Shared} {σ : St} {H : Hp} {Q : VK} {kx vx tg iter : Expr} {ifs : List Expr} {scope : Scope} {own : List (Str × Nat)} {pos pos' : Pos} {wi : TI} {g : TG} {tt : TT} {tk tv : TE} {use : Option (Value → Sem Unit)} {Qf : Value → Shared → Prop}
    (hu : X.A.units < cLine) (hc : X.calm = true) (hN : X.N.Nodup) (I : Inv X pins σ H s) (hi : PI X tg iter wi) (ok : BlkOk X.N X.env.scope scope own)
    (hg : ∀ (s : Shared) (H : Hp) (C : Addr) (cl : List (Str × Addr)) (fp : List Addr), PG (X.blk s H scope (compEnvC scope cl C X.env) fp) tg g) (ht : ∀ (s : Shared) (H : Hp) (C : Addr) (cl : List (Str × Addr)) (fp : List Addr), PTs (X.blk s H scope (compEnvC scope cl C X.env) fp) ifs tt)
    (hk : ∀ (s : Shared) (H : Hp) (C : Addr) (cl : List (Str × Addr)) (fp : List Addr), PE (X.blk s H scope (compEnvC scope cl C X.env) fp) kx tk)
    (he : ∀ (s : Shared) (H : Hp) (C : Addr) (cl : List (Str × Addr)) (fp : List Addr), PE (X.blk s H scope (compEnvC scope cl C X.env) fp) vx tv) (hs : ∀ x, foldedSetIterable iter X.env x = pure x)
    (h : tDcT wi g tt tk tv (own.map (·.2)) σ H Q)
    (hRR : ∀ D C s' m H', Inv X pins σ H' s' → Q (.ref D) H' → s'.heap.Ns C m → FpOk X pins H' C → compPost (model X.prog X.w) X.A X.xe use Qf (.ref D) C (.ok .next) s') :
    wpAny (model X.prog X.w) X.A (comprehension (.DictComp kx vx [⟨tg, iter, ifs, 0⟩] scope pos) scope X.env pos' newDict false (eval iter X.env) use) Qf X.xe s := by
  have hfree : ∀ y ∈ scope.names, y.2 = .free → ∃ c, X.env.cells.lookup y.1 = some c := fun y hy e => by
    rcases ok.free y hy e with k | k
    · exact I.ok.has _ (.inl k)
    · exact I.ok.has _ (.inr k)
  refine wpAny_comprehension_free (use := use) rfl hs (closure_ok hfree) ok.kind (fun y hy e => by rw [ok.uniq y hy, e])
    (thn (hi.run pins s σ H _ I h) fun xv s1 hx => thn hx fun itv s2 h2 => ?_)
  obtain ⟨it, fp, tn, J, H2, e, I2, T, st2, f2, q⟩ := h2
  subst e
  refine wpAny_newObj_type (newEnv_comp ?_)
  generalize hD : s2.heap.objs.size = D
  have hDn : H2 D = none := I2.hok.fresh (Nat.le_of_eq hD)
  obtain ⟨W, ⟨m0, w0⟩, turn⟩ := q D hDn
  -- the new list
  generalize hs3 : ({ s2 with heap := s2.heap.push { cls := .type "dict", data := .dict #[] } } : Shared) = s3
  have I3 : Inv X pins σ (upd H2 D (.dT [])) s3 := by
    rw [← hs3]
    refine I2.laid (t' := s2.toks) (fun b o e => Heap.get?_push_of_some _ e) (Nat.le_of_eq hD) ?_
    rw [← hD]
    exact dt_empty s2.heap I2.big
  have h3 : s3.heap = s2.heap.push { cls := .type "dict", data := .dict #[] } := by rw [← hs3]
  have sz : ∀ b ∈ fp, b < s2.heap.objs.size := fun b hb => by
    obtain ⟨o, e, _⟩ := T.obj _ _ st2 b hb
    exact Heap.lt_size e
  have f3 : ∀ b ∈ fp, FpOk X pins (upd H2 D (.dT [])) b ∧ b < s3.heap.objs.size := fun b hb => by
    have hlt := sz b hb
    refine ⟨⟨?_, (f2 b hb).2⟩, by rw [h3, Heap.size_push]; exact Nat.lt_succ_of_lt hlt⟩
    rw [upd_ne (by rw [← hD]; exact Nat.ne_of_lt hlt)]
    exact (f2 b hb).1
  have st3 : tn 0 s3.heap := T.keep _ _ _ st2 fun b _ o e => by rw [h3]; exact Heap.get?_push_of_some _ e
  have I4 := block_start I3 ok hN f3
  have pg := hg s3 (upd H2 D (.dT [])) s3.heap.objs.size (cellsFrom (s3.heap.objs.size + 1) scope.names (cloFrom X.env.cells scope.names [])) fp
  have pt := ht s3 (upd H2 D (.dT [])) s3.heap.objs.size (cellsFrom (s3.heap.objs.size + 1) scope.names (cloFrom X.env.cells scope.names [])) fp
  have pk := hk s3 (upd H2 D (.dT [])) s3.heap.objs.size (cellsFrom (s3.heap.objs.size + 1) scope.names (cloFrom X.env.cells scope.names [])) fp
  have pe := he s3 (upd H2 D (.dT [])) s3.heap.objs.size (cellsFrom (s3.heap.objs.size + 1) scope.names (cloFrom X.env.cells scope.names [])) fp
  show codeAny _ _ (.compStart (.DictComp kx vx [⟨tg, iter, ifs, 0⟩] scope pos) 0 (.ref it) (.ref D) (compEnvC scope (cellsFrom (s3.heap.objs.size + 1) scope.names (cloFrom X.env.cells scope.names [])) s3.heap.objs.size X.env)) (compPost (model X.prog X.w) X.A X.xe use Qf (.ref D) s3.heap.objs.size) { s3 with heap := pushCells (s3.heap.push { cls := .type "dict", data := .dict #[] }) scope.names }
  have nfp : ∀ b ∈ fp, (upd H2 D (.dT [])) b = none := fun b hb => (f3 b hb).1.1
  generalize hce : compEnvC scope (cellsFrom (s3.heap.objs.size + 1) scope.names (cloFrom X.env.cells scope.names [])) s3.heap.objs.size X.env = ce at I4 pg pt pk pe ⊢
  have cL : ce.locals = s3.heap.objs.size := by subst hce; rfl
  generalize hH3 : upd H2 D (.dT []) = H3 at I3 I4 pg pt pk pe w0 nfp f3
  generalize hs4 : ({ s3 with heap := pushCells (s3.heap.push { cls := .type "dict", data := .dict #[] }) scope.names } : Shared) = s4 at I4 ⊢
  have st4 : tn 0 s4.heap := T.keep _ _ _ st3 fun b _ o e => by rw [← hs4]; exact pushCells_keeps _ _ _ _ (Heap.get?_push_of_some _ e)
  have stat : ∀ {σ' : St} {H' : Hp} {s' : Shared}, Inv (X.blk s3 H3 scope ce fp) [] σ' H' s' → (∀ b ∈ fp, H' b = none) → ∀ b ∈ fp, FpOk (X.blk s3 H3 scope ce fp) [] H' b := fun {σ' H' s'} I' hn b hb =>
    ⟨hn b hb, (I'.ok.exf b hb).1, I'.ok.exfs b hb, .inl hb, fun x c e => (I'.ok.exf b hb).2 x c e, fun p hp => absurd (show p ∈ ([] : List (Addr × Obj)) ++ [] from hp) (by simp)⟩
  have loop : codeAny (model X.prog X.w) X.A (.compLoop (.DictComp kx vx [⟨tg, iter, ifs, 0⟩] scope pos) 0 (.ref it) (.ref D) ce) (compPost (model X.prog X.w) X.A X.xe use Qf (.ref D) s3.heap.objs.size) s4 := by
    refine compLoop_anyD (fun n s' => ∃ i H', Inv (X.blk s3 H3 scope ce fp) [] (wipe σ (own.map (·.2))) H' s' ∧ tn i s'.heap ∧ (∀ b ∈ fp, H' b = none) ∧ W i n H') ?_ m0 ⟨0, H3, I4, st4, nfp, w0⟩
    rintro n s5 ⟨i, H5, I5, st5, n5, w5⟩
    rcases turn i n H5 w5 with ⟨stop, qq⟩ | ⟨go, Nx, hNx, step⟩
    · have td := T.done (X.blk s3 H3 scope ce fp) rfl rfl rfl hc i [] s5 _ H5 (fun _ _ => False) I5 (stat I5 n5) st5 stop
      refine thnF td fun r s6 ⟨hr, I6⟩ => ?_
      subst hr
      -- back in the def's context
      have I7 : Inv X pins σ H5 s6 := I3.call' (ch := fp) I6.os I6.base I6.hok I6.bare fun b hb => ⟨(f3 b hb).1.2.2.2.1, (f3 b hb).1.2.1, (f3 b hb).1.2.2.2.2.1, (f3 b hb).1.2.2.2.2.2⟩
      have nC : H5 s3.heap.objs.size = none := by
        have z : H5 ce.locals = none := I6.free
        rw [cL] at z
        exact z
      obtain ⟨m, hn, _⟩ := I6.loc
      have hn : s6.heap.Ns ce.locals m := hn
      rw [cL] at hn
      exact hRR D s3.heap.objs.size s6 m H5 I7 qq hn (I3.fpOk (Nat.le_refl _) nC)
    · have ti := T.item (X.blk s3 H3 scope ce fp) rfl rfl rfl hc i [] s5 _ H5 (fun _ _ => False) I5 (stat I5 n5) st5 go
      refine thnF ti fun r s6 ⟨u, hr, h6⟩ => ?_
      subst hr
      refine thnF h6 fun _ s7 ⟨x, H7, I7, r7, y7, st7, n7⟩ => ?_
      have I7' := I7.pinned (stat I7 n7) (T.obj _ _ st7)
      refine thnF (pg.run _ s7 _ H7 x u _ I7' r7 (step x H7 y7)) fun _ s8 ⟨σ8, H8, I8, hw8, q8⟩ => ?_
      refine thnF (pt.run _ s8 σ8 H8 _ I8 q8) fun b s9 ⟨H9, I9, q9⟩ => ?_
      -- the turn's end
      have fin : ∀ {s' : Shared} {H' : Hp}, Inv (X.blk s3 H3 scope ce fp) ([] ++ pinsAt fp s7.heap) σ8 H' s' → Nx H' → ∃ m, m < n ∧ ∃ i H', Inv (X.blk s3 H3 scope ce fp) [] (wipe σ (own.map (·.2))) H' s' ∧ tn i s'.heap ∧ (∀ b ∈ fp, H' b = none) ∧ W i m H' := fun {s' H'} I' nx => by
        obtain ⟨m', hm, w'⟩ := hNx H' nx
        have pin' : ∀ b ∈ fp, ∀ o, s7.heap.get? b = some o → s'.heap.get? b = some o ∧ H' b = none := fun b hb o e =>
          let z := I'.pin (b, o) (List.mem_append_right _ (List.mem_append_right _ (mem_pinsAt hb e)))
          ⟨z.1, z.2.1⟩
        have hl : (wipe σ (own.map (·.2))).length = σ8.length := by rw [← hw8, wipe_length]
        refine ⟨m', hm, i + 1, H', (I'.unpinned (pins := [])).weak hl (fun j v e => ?_), T.keep _ _ _ st7 fun b hb o e => (pin' b hb o e).1, fun b hb => ?_, w'⟩
        · rw [← hw8] at e
          exact (wipe_some e).1
        · obtain ⟨o, e, _⟩ := T.obj _ _ st7 b hb
          exact (pin' b hb o e).2
      cases b with
      | false =>
        simp only [Bool.false_eq_true, if_false] at q9 ⊢
        exact fin I9 q9
      | true =>
        simp only [if_true] at q9 ⊢
        refine thnF (pk.run _ s9 σ8 H9 _ I9 q9) fun z s10 ⟨yk, H10, I10, r10, q10⟩ => ?_
        refine thnF (pe.run _ s10 σ8 H10 _ I10 q10) fun z2 s11 ⟨yv, H11, I11, r11, kvs, k, bk, ek, hb11, hD11, hz11, nx⟩ => ?_
        subst ek
        exact d_dictSetT (X := X.blk s3 H3 scope ce fp) hu I11 hb11 hD11 hz11 r10 r11 fun s12 I12 => fin I12 nx
  exact codeAny_compStart_dict loop (T.self X.A 0 _ _ _ st4 loop)
/-- as a value -/
theorem pe_dcT {kx vx tg iter : Expr} {ifs : List Expr} {scope : Scope} {own : List (Str × Nat)} {pos : Pos} {wi : TI} {g : TG} {tt : TT} {tk tv : TE} (hu : X.A.units < cLine) (hc : X.calm = true) (hN : X.N.Nodup) (hi : PI X tg iter wi) (ok : BlkOk X.N X.env.scope scope own)
    (hg : ∀ (s : Shared) (H : Hp) (C : Addr) (cl : List (Str × Addr)) (fp : List Addr), PG (X.blk s H scope (compEnvC scope cl C X.env) fp) tg g) (ht : ∀ (s : Shared) (H : Hp) (C : Addr) (cl : List (Str × Addr)) (fp : List Addr), PTs (X.blk s H scope (compEnvC scope cl C X.env) fp) ifs tt)
    (hk : ∀ (s : Shared) (H : Hp) (C : Addr) (cl : List (Str × Addr)) (fp : List Addr), PE (X.blk s H scope (compEnvC scope cl C X.env) fp) kx tk)
    (he : ∀ (s : Shared) (H : Hp) (C : Addr) (cl : List (Str × Addr)) (fp : List Addr), PE (X.blk s H scope (compEnvC scope cl C X.env) fp) vx tv) (hs : ∀ x, foldedSetIterable iter X.env x = pure x := by intro _; rfl) :
    PE X (.DictComp kx vx [⟨tg, iter, ifs, 0⟩] scope pos) (tDcT wi g tt tk tv (own.map (·.2))) := by
  refine ⟨fun pins s σ H Q I h => ?_⟩
  rw [arm_eval_DictComp]
  refine dc_coreT hu hc hN I hi ok hg ht hk he hs h fun D C s' m H' I' q hn f => ⟨m, hn, fun h'' sb => ?_⟩
  obtain ⟨f0, f1, f2, f3, f4, f5⟩ := f
  exact ⟨.ref D, H', I'.turned (t' := s'.toks) (fun b o hb e => (sb.2 b hb).trans e) f0 f1 f3 f4 f5, rfl, q⟩
end
end L2
namespace LW
open PySem L2 PyProof.Rows
def dcMT (chk : Sto → Bool) (asg : D → Env → Option Env) (cond : SB) (fk fv : SE) (env0 : Env) : List D → DKT → Sto → Option (DKT × Sto)
  | [], acc, st => if chk st = true then some (acc, st) else none
  | d :: ds, acc, st => if chk st = true then (match asg d env0 with
    | none => none
    | some e1 => match cond e1 st with
      | none => none
      | some (false, s1) => dcMT chk asg cond fk fv env0 ds acc s1
      | some (true, s1) => match fk e1 s1 with
        | none => none
        | some (y, s2) => match fv e1 s2 with
          | none => none
          | some (z, s3) => match keysD y with
            | none => none
            | some k => dcMT chk asg cond fk fv env0 ds (putKDT acc k z) s3) else none
def dCompT (fi : Fx Src) (asg : D → Env → Option Env) (cond : SB) (fk fv : SE) (vs : List Nat) : Fx DKT := fun env st => match fi env st with
  | none => none
  | some (xs, s1) => if xs.1.length ≤ 1000000 then dcMT xs.2 asg cond fk fv (wipeE env vs) xs.1 ([], []) s1 else none
theorem putKDT_len {acc : DKT} {k : List Key} {z : D} : (putKDT acc k z).1.length ≤ acc.1.length + 1 := by
  unfold putKDT
  split
  · exact Nat.le_succ _
  · show (acc.1 ++ [k]).length ≤ _
    rw [List.length_append]
    exact Nat.le_refl _
section
variable {mg : Glob} {fi : Fx Src} {asg : D → Env → Option Env} {cond : SB} {fk fv : SE} {g : TG} {is vs : List Nat} {own : List (Str × Nat)}
theorem r_dcT (hg : GOk mg g asg is) (hv : ∀ i ∈ is, i ∈ vs) {σ : L2.St} {H : Hp} {Q : VK} (h : tDT mg (dCompT fi asg cond fk fv vs) σ H Q) : tDcT (tI mg fi) g (tT mg cond) (tE mg fk) (tE mg fv) vs σ H Q := by
  obtain ⟨E, N, c, env, st, d, st', R, q, k⟩ := h
  unfold dCompT at q
  split at q
  · cases q
  · rename_i src s1 q1
    obtain ⟨xs, chk⟩ := src
    split at q
    · rename_i hl
      have hl : xs.length ≤ 1000000 := hl
      refine ⟨E, N, c, env, st, (xs, chk), s1, R, q1, fun J N1 c1 H1 x1 W1 il => fun p hp => ?_⟩
      have R1 := R.ex x1 W1
      have x2 := Ex.laidN (o := .dT []) W1 hp
      have W2 := W1.laidN (o := .dT []) hp
      have h0 : E.H0 p = none := R1.fresh0 hp
      have hpH : H p = none := x1.free R.wd W1 hp
      have nw := (R1.wipe vs).notOwn hp
      refine ⟨fun i m H' => m = xs.length - i ∧ i ≤ xs.length ∧ ∃ N' c' st2 ad kvs, Ex N c H N' c' H' ∧ Sx N1 c1 H1 N' c' H' ∧ Rel mg E N' c' (wipeE env vs) st2 (L2.wipe σ vs) H' ∧ N' p ∧ p ∉ c' ∧ H' p = some (.dT kvs) ∧ kvs.map (·.1) = ad.1 ∧ RepL mg N' c' H' (kvs.map (·.2)) ad.2 ∧ ad.1.length ≤ i ∧
        dcMT chk asg cond fk fv (wipeE env vs) (xs.drop i) ad st2 = some (d, st'),
        ⟨xs.length, by omega, Nat.zero_le _, _, c1, s1, ([], []), [], x1.trans x2 R.wd, x2.sx W1 W2, (R1.ex x2 W2).wipe vs, .inr rfl, W1.cnone hp, upd_same, rfl, .nil, Nat.zero_le _, by rw [List.drop_zero]; exact q⟩, ?_⟩
      rintro i m H' ⟨rfl, hi, N', c', st2, ad, kvs, ex, sx, R', np, nc, hpv, hm, ra, la, ql⟩
      by_cases hlt : i < xs.length
      · have ed0 : xs.drop i = xs[i] :: xs.drop (i + 1) := List.drop_eq_getElem_cons hlt
        rw [ed0] at ql
        unfold dcMT at ql
        split at ql
        · rename_i hck
          refine .inr ⟨il.go i N' c' H' st2 hlt sx R'.wd hck, fun H3 => ∃ N' c' st2 ad kvs, Ex N c H N' c' H3 ∧ Sx N1 c1 H1 N' c' H3 ∧ Rel mg E N' c' (wipeE env vs) st2 (L2.wipe σ vs) H3 ∧ N' p ∧ p ∉ c' ∧ H3 p = some (.dT kvs) ∧ kvs.map (·.1) = ad.1 ∧ RepL mg N' c' H3 (kvs.map (·.2)) ad.2 ∧ ad.1.length ≤ i + 1 ∧
            dcMT chk asg cond fk fv (wipeE env vs) (xs.drop (i + 1)) ad st2 = some (d, st'), fun H3 z => ⟨xs.length - (i + 1), by omega, rfl, hlt, z⟩, fun x H2 y => ?_⟩
          obtain ⟨d0, hd0, x3, W3, r3⟩ := il.yld i N' c' H' st2 x H2 hlt sx R'.wd hck y
          have ed2 : xs[i] = d0 := by
            obtain ⟨_, e⟩ := List.getElem?_eq_some_iff.mp hd0
            exact e
          rw [ed2] at ql
          split at ql
          · cases ql
          · rename_i e1 ha
            have R3 := R'.ex x3 W3
            refine hg E N' c' _ e1 st2 _ H2 x d0 _ R3 r3 ha fun σ4 R4 df => ⟨by rw [df vs hv]; exact wipe_idem fun _ z => z, ?_⟩
            split at ql
            · cases ql
            · rename_i sA qc
              refine ⟨E, N', c', e1, st2, false, sA, R4, qc, fun N5 c5 H5 x5 W5 => iteF ?_⟩
              have x35 := x3.trans x5 R'.wd
              exact ⟨N5, c5, sA, ad, kvs, ex.trans x35 R.wd, sx.trans (x35.sx R'.wd W5), R3.ex x5 W5, x5.mono p np, x35.nc R'.wd hpv nc, x35.keep p _ hpv nc, hm, ra.tr (x35.tr R'.wd), Nat.le_succ_of_le la, ql⟩
            · rename_i sA qc
              split at ql
              · cases ql
              · rename_i y1 sB qe
                split at ql
                · cases ql
                · rename_i z1 sC qz
                  split at ql
                  · cases ql
                  · rename_i kk hk
                    refine ⟨E, N', c', e1, st2, true, sA, R4, qc, fun N5 c5 H5 x5 W5 => iteT ?_⟩
                    have R5 := R4.ex x5 W5
                    refine ⟨E, N5, c5, e1, sA, y1, sB, R5, qe, fun w N6 c6 H6 x6 W6 r6 => ?_⟩
                    refine ⟨E, N6, c6, e1, sB, z1, sC, R5.ex x6 W6, qz, fun u N7 c7 H7 x7 W7 r7 => ?_⟩
                    have x37 := ((x3.trans x5 R'.wd).trans x6 R'.wd).trans x7 R'.wd
                    have hp7 := x37.keep p _ hpv nc
                    have nc7 := x37.nc R'.wd hpv nc
                    have np7 := x37.mono p np
                    have ra7 := ra.tr (x37.tr R'.wd)
                    have ln : kvs.length = ad.1.length := by rw [← hm, List.length_map]
                    obtain ⟨m1, m2⟩ := putT_rel (k := kk) r7 ra7
                    rw [hm] at m1 m2
                    obtain ⟨b6, rfl, hb6⟩ := RepT.keysT (.inl (Rep.tr (x7.tr W6) r6)) hk
                    refine ⟨kvs, kk, b6, rfl, hb6, hp7, sz7 (by omega), ?_⟩
                    have R7 : Rel mg E N7 c7 (wipeE env vs) sC (L2.wipe σ vs) H7 := R'.ex x37 W7
                    obtain ⟨Rg, sg⟩ := R7.growO (o := .dT (putK kvs kk u)) np7 nc7 h0 ⟨_, hp7, by simp⟩ nw
                    have exT := ex.trans x37 R.wd
                    refine ⟨N7, c7, sC, putKDT ad kk z1, putK kvs kk u, ⟨fun a o e n => ?_, exT.new, exT.mono, exT.pre, exT.newc⟩, (sx.trans (x37.sx R'.wd W7)).trans sg, Rg, np7, nc7, upd_same, m1, m2.tr sg.tr, Nat.le_trans putKDT_len (Nat.succ_le_succ la), ql⟩
                    rw [upd_ne (ne_of_none e hpH)]
                    exact exT.keep a o e n
        · cases ql
      · have e : i = xs.length := by omega
        subst e
        rw [List.drop_length] at ql
        unfold dcMT at ql
        split at ql
        · rename_i hck
          cases ql
          exact .inl ⟨il.stop N' c' H' _ sx R'.wd hck, k _ N' c' H' ex R'.wd ⟨p, kvs, rfl, hpH, np, nc, hpv, hm, ra⟩⟩
        · cases ql
    · cases q
theorem r_dcKT (hg : GOk mg g asg is) (hv : ∀ i ∈ is, i ∈ own.map (·.2)) {i : Nat} {σ : L2.St} {H : Hp} {Q : VK} (h : tD mg (dComp (iKyT i) asg cond fk fv (own.map (·.2))) σ H Q) :
    tLockE (tDc (tIKT mg i) g (tT mg cond) (tE mg fk) (tE mg fv) (own.map (·.2))) σ H Q ∨ tDc (tIKT mg i) g (tT mg cond) (tE mg fk) (tE mg fv) (own.map (·.2)) σ H Q := by
  obtain ⟨E, N, c, env, st, d, st', R, q, k⟩ := h
  have q0 := q
  unfold dComp iKyT at q
  split at q
  · cases q
  · rename_i src s1 q1
    split at q1
    · rename_i ks ds he
      obtain ⟨v, ev, rv⟩ := R.sl i _ he
      have ev := join_some ev
      cases rv with
      | ditz ha n hn r => exact .inr ⟨r_dc (fi := iKyT i) hg hv ⟨E, N, c, env, st, d, st', R, q0, k⟩, _, _, _, ev, ha⟩
      | dit ha n hn r =>
        rename_i a kvs _
        refine .inl ⟨a, .dT kvs, ha, trivial, fun od => ⟨?_, a, od, kvs, ev, upd_same⟩⟩
        obtain ⟨E', R'⟩ := R.lockT (od := od) ha n
        show tDc (tI mg (iKyT i)) g (tT mg cond) (tE mg fk) (tE mg fv) (own.map (·.2)) σ _ (fun v H' => H' a = some (.frz od (.dT kvs)) ∧ Q v (upd H' a (.dT kvs)))
        refine r_dc (fi := iKyT i) hg hv ⟨E', N, c, env, st, d, st', R', q0, fun v N' c' H' x W' rn => ?_⟩
        have nc : a ∉ c := fun z => n (R.wd.cn a z)
        have hf : H' a = some (.frz od (.dT kvs)) := x.keep a _ upd_same nc
        have n' : ¬ N' a := fun z => (x.new a z).elim n fun e => by rw [upd_same] at e; cases e
        have l : LkT N' H' (upd H' a (.dT kvs)) := lkT_unlock hf n'
        refine ⟨hf, k v N' c' (upd H' a (.dT kvs)) ⟨fun b o e nb => ?_, fun b z => ?_, x.mono, x.pre, fun b z => ?_⟩ (W'.lkT l) ?_⟩
        · by_cases z : b = a
          · subst z
            rw [ha] at e
            cases e
            exact upd_same
          · rw [upd_ne z]
            exact x.keep b o (by rw [upd_ne z]; exact e) nb
        · rcases x.new b z with y | y
          · exact .inl y
          · by_cases w : b = a
            · subst w; rw [upd_same] at y; cases y
            · rw [upd_ne w] at y; exact .inr y
        · rcases x.newc b z with y | y
          · exact .inl y
          · by_cases w : b = a
            · subst w; rw [upd_same] at y; cases y
            · rw [upd_ne w] at y; exact .inr y
        · obtain ⟨p, kvs2, rfl, hp, np, nc', hv', hm2, rr⟩ := rn
          have hpa : p ≠ a := fun z => by rw [z, hf] at hv'; cases hv'
          exact ⟨p, kvs2, rfl, by rw [upd_ne hpa] at hp; exact hp, np, nc', by rw [upd_ne hpa]; exact hv', hm2, rr.lkT l⟩
    · cases q1
theorem r_dcKTT (hg : GOk mg g asg is) (hv : ∀ i ∈ is, i ∈ own.map (·.2)) {i : Nat} {σ : L2.St} {H : Hp} {Q : VK} (h : tDT mg (dCompT (iKyT i) asg cond fk fv (own.map (·.2))) σ H Q) :
    tLockE (tDcT (tIKT mg i) g (tT mg cond) (tE mg fk) (tE mg fv) (own.map (·.2))) σ H Q ∨ tDcT (tIKT mg i) g (tT mg cond) (tE mg fk) (tE mg fv) (own.map (·.2)) σ H Q := by
  obtain ⟨E, N, c, env, st, d, st', R, q, k⟩ := h
  have q0 := q
  unfold dCompT iKyT at q
  split at q
  · cases q
  · rename_i src s1 q1
    split at q1
    · rename_i ks ds he
      obtain ⟨v, ev, rv⟩ := R.sl i _ he
      have ev := join_some ev
      cases rv with
      | ditz ha n hn r => exact .inr ⟨r_dcT (fi := iKyT i) hg hv ⟨E, N, c, env, st, d, st', R, q0, k⟩, _, _, _, ev, ha⟩
      | dit ha n hn r =>
        rename_i a kvs _
        refine .inl ⟨a, .dT kvs, ha, trivial, fun od => ⟨?_, a, od, kvs, ev, upd_same⟩⟩
        obtain ⟨E', R'⟩ := R.lockT (od := od) ha n
        show tDcT (tI mg (iKyT i)) g (tT mg cond) (tE mg fk) (tE mg fv) (own.map (·.2)) σ _ (fun v H' => H' a = some (.frz od (.dT kvs)) ∧ Q v (upd H' a (.dT kvs)))
        refine r_dcT (fi := iKyT i) hg hv ⟨E', N, c, env, st, d, st', R', q0, fun v N' c' H' x W' rn => ?_⟩
        have nc : a ∉ c := fun z => n (R.wd.cn a z)
        have hf : H' a = some (.frz od (.dT kvs)) := x.keep a _ upd_same nc
        have n' : ¬ N' a := fun z => (x.new a z).elim n fun e => by rw [upd_same] at e; cases e
        have l : LkT N' H' (upd H' a (.dT kvs)) := lkT_unlock hf n'
        refine ⟨hf, k v N' c' (upd H' a (.dT kvs)) ⟨fun b o e nb => ?_, fun b z => ?_, x.mono, x.pre, fun b z => ?_⟩ (W'.lkT l) ?_⟩
        · by_cases z : b = a
          · subst z
            rw [ha] at e
            cases e
            exact upd_same
          · rw [upd_ne z]
            exact x.keep b o (by rw [upd_ne z]; exact e) nb
        · rcases x.new b z with y | y
          · exact .inl y
          · by_cases w : b = a
            · subst w; rw [upd_same] at y; cases y
            · rw [upd_ne w] at y; exact .inr y
        · rcases x.newc b z with y | y
          · exact .inl y
          · by_cases w : b = a
            · subst w; rw [upd_same] at y; cases y
            · rw [upd_ne w] at y; exact .inr y
        · obtain ⟨p, kvs2, rfl, hp, np, nc', hv', hm2, rr⟩ := rn
          have hpa : p ≠ a := fun z => by rw [z, hf] at hv'; cases hv'
          exact ⟨p, kvs2, rfl, by rw [upd_ne hpa] at hp; exact hp, np, nc', by rw [upd_ne hpa]; exact hv', hm2, rr.lkT l⟩
    · cases q1
variable {X : Cx} {kx vx tg iter : Expr} {ifs : List Expr} {scope : Scope} {pos : Pos}
/-- {k: v for target in iter if ..} -/
theorem d_dcT (hu : X.A.units < cLine) (hc : X.calm = true) (hN : X.N.Nodup) (hi : PI X tg iter (tI mg fi)) (ok : BlkOk X.N X.env.scope scope own)
    (hgg : ∀ (s : Shared) (H : Hp) (C : Addr) (cl : List (Str × Addr)) (fp : List Addr), PG (X.blk s H scope (compEnvC scope cl C X.env) fp) tg g) (hg : GOk mg g asg is) (hv : ∀ i ∈ is, i ∈ own.map (·.2))
    (ht : ∀ (s : Shared) (H : Hp) (C : Addr) (cl : List (Str × Addr)) (fp : List Addr), PTs (X.blk s H scope (compEnvC scope cl C X.env) fp) ifs (tT mg cond))
    (hk : ∀ (s : Shared) (H : Hp) (C : Addr) (cl : List (Str × Addr)) (fp : List Addr), PE (X.blk s H scope (compEnvC scope cl C X.env) fp) kx (tE mg fk))
    (he : ∀ (s : Shared) (H : Hp) (C : Addr) (cl : List (Str × Addr)) (fp : List Addr), PE (X.blk s H scope (compEnvC scope cl C X.env) fp) vx (tE mg fv)) (hs : ∀ x, foldedSetIterable iter X.env x = pure x := by intro _; rfl) :
    PE X (.DictComp kx vx [⟨tg, iter, ifs, 0⟩] scope pos) (tDT mg (dCompT fi asg cond fk fv (own.map (·.2)))) :=
  pe_weak (pe_dcT hu hc hN hi ok hgg ht hk he hs) fun _ _ _ h => r_dcT hg hv h
theorem d_dcKT (i : Nat) {x : Str} {p : Pos} (hc : X.calm = true) (hN : X.N.Nodup) (ok : BlkOk X.N X.env.scope scope own)
    (hgg : ∀ (s : Shared) (H : Hp) (C : Addr) (cl : List (Str × Addr)) (fp : List Addr), PG (X.blk s H scope (compEnvC scope cl C X.env) fp) tg g) (hg : GOk mg g asg is) (hv : ∀ i ∈ is, i ∈ own.map (·.2))
    (ht : ∀ (s : Shared) (H : Hp) (C : Addr) (cl : List (Str × Addr)) (fp : List Addr), PTs (X.blk s H scope (compEnvC scope cl C X.env) fp) ifs (tT mg cond))
    (hk : ∀ (s : Shared) (H : Hp) (C : Addr) (cl : List (Str × Addr)) (fp : List Addr), PE (X.blk s H scope (compEnvC scope cl C X.env) fp) kx (tE mg fk))
    (he : ∀ (s : Shared) (H : Hp) (C : Addr) (cl : List (Str × Addr)) (fp : List Addr), PE (X.blk s H scope (compEnvC scope cl C X.env) fp) vx (tE mg fv))
    (hx : X.N[i]? = some x := by rfl) (hvs : Vis X.env.scope x := by first | exact Or.inl rfl | exact Or.inr (Or.inl rfl) | exact Or.inr (Or.inr rfl)) (hd : (x == ("__debug__" : Str)) = false := by decide)
    (hcd : (x == ("__classdict__" : Str)) = false := by decide) (hs : ∀ y, foldedSetIterable (.Name x p) X.env y = pure y := by intro _; rfl) :
    PE X (.DictComp kx vx [⟨tg, .Name x p, ifs, 0⟩] scope pos) (tD mg (dComp (iKyT i) asg cond fk fv (own.map (·.2)))) :=
  pe_weak (pe_lockOr (pe_dc hc hN (i_keysT i hx hvs hd hcd) ok hgg ht hk he hs)) fun _ _ _ h => r_dcKT hg hv h
theorem d_dcKTT (i : Nat) {x : Str} {p : Pos} (hu : X.A.units < cLine) (hc : X.calm = true) (hN : X.N.Nodup) (ok : BlkOk X.N X.env.scope scope own)
    (hgg : ∀ (s : Shared) (H : Hp) (C : Addr) (cl : List (Str × Addr)) (fp : List Addr), PG (X.blk s H scope (compEnvC scope cl C X.env) fp) tg g) (hg : GOk mg g asg is) (hv : ∀ i ∈ is, i ∈ own.map (·.2))
    (ht : ∀ (s : Shared) (H : Hp) (C : Addr) (cl : List (Str × Addr)) (fp : List Addr), PTs (X.blk s H scope (compEnvC scope cl C X.env) fp) ifs (tT mg cond))
    (hk : ∀ (s : Shared) (H : Hp) (C : Addr) (cl : List (Str × Addr)) (fp : List Addr), PE (X.blk s H scope (compEnvC scope cl C X.env) fp) kx (tE mg fk))
    (he : ∀ (s : Shared) (H : Hp) (C : Addr) (cl : List (Str × Addr)) (fp : List Addr), PE (X.blk s H scope (compEnvC scope cl C X.env) fp) vx (tE mg fv))
    (hx : X.N[i]? = some x := by rfl) (hvs : Vis X.env.scope x := by first | exact Or.inl rfl | exact Or.inr (Or.inl rfl) | exact Or.inr (Or.inr rfl)) (hd : (x == ("__debug__" : Str)) = false := by decide)
    (hcd : (x == ("__classdict__" : Str)) = false := by decide) (hs : ∀ y, foldedSetIterable (.Name x p) X.env y = pure y := by intro _; rfl) :
    PE X (.DictComp kx vx [⟨tg, .Name x p, ifs, 0⟩] scope pos) (tDT mg (dCompT (iKyT i) asg cond fk fv (own.map (·.2)))) :=
  pe_weak (pe_lockOr (pe_dcT hu hc hN (i_keysT i hx hvs hd hcd) ok hgg ht hk he hs)) fun _ _ _ h => r_dcKTT hg hv h
end
end LW

/-! LwPa: list(d.values()); dicts with tuple keys: k in d, the frame's own read, dict(d) of one key at most. -/
namespace LW
open PySem L2 PyProof.Rows
/-! ### arguments by name, in the other order -/
theorem Vals.len : ∀ {zs : List V} {ws : List Value}, Vals zs ws → zs.length = ws.length
  | [], [], .nil => rfl
  | _ :: _, _ :: _, .cons _ t => congrArg Nat.succ (Vals.len t)
theorem Vals.app : ∀ {zs : List V} {ws : List Value} {zs' : List V} {ws' : List Value}, Vals zs ws → Vals zs' ws' → Vals (zs ++ zs') (ws ++ ws')
  | [], [], _, _, .nil, h => h
  | _ :: _, _ :: _, _, _, .cons a t, h => .cons a (Vals.app t h)
theorem Vals.rev : ∀ {zs : List V} {ws : List Value}, Vals zs ws → Vals zs.reverse ws.reverse
  | [], [], .nil => .nil
  | _ :: _, _ :: _, .cons a t => by
    rw [List.reverse_cons, List.reverse_cons]
    exact Vals.app (Vals.rev t) (.cons a .nil)
theorem RepL.rev {mg : Glob} {N : Prot} {c : List Addr} {H : Hp} : ∀ {vs : List V} {ds : List D}, RepL mg N c H vs ds → RepL mg N c H vs.reverse ds.reverse
  | [], [], .nil => .nil
  | _ :: _, _ :: _, .cons a t => by
    rw [List.reverse_cons, List.reverse_cons]
    exact (RepL.rev t).append (.cons a .nil)
theorem pm_rv {n : Nat} : Pm n List.reverse List.reverse List.reverse := ⟨fun _ h => Vals.rev h, fun _ h => RepL.rev h, fun h => by rw [List.length_reverse] at h; exact h, fun h => by rw [List.length_reverse] at h; exact h, fun h => by rw [List.length_reverse]; exact h⟩
/-! ### list(d.values()) -/
theorem vals_kv : ∀ {kvs : List (Key × V)} {vs : List (Key × Value)} {acc : List Value}, KV kvs vs → acc.length = vs.length → (∀ (i : Nat) (v : Value), acc[i]? = some v → ∃ k, vs[i]? = some (k, v)) → Vals (kvs.map (·.2)) acc
  | [], _, [], .nil, _, _ => .nil
  | [], _, _ :: _, .nil, h, _ => by cases h
  | _ :: _, _, [], .cons _ _, h, _ => by cases h
  | kv :: kvs, q :: vs, a :: acc, .cons h t, hl, hp => by
    obtain ⟨k, e⟩ := hp 0 a rfl
    cases e
    exact .cons h.2 (vals_kv t (Nat.succ.inj hl) fun i v e => hp (i + 1) v e)
def tListVals (te : TE) : TE := fun σ H Q => te σ H fun x H1 => ∃ (d : Addr) (kvs : List (Key × V)), x = .ref d ∧ Rd H1 d (.dK kvs) ∧ ∀ p, H1 p = none → Q (.ref p) (upd H1 p (.lst (kvs.map (·.2))))
theorem pe_listVals {X : Cx} {e : Expr} {te : TE} {p apos cpos pos : Pos} (hc : X.calm = true) (he : PE X e te) (hg : Gl X "list") (hm : X.mg "list" = none) (hv : bootBuiltins "list" = some (.type "list")) (hbase : attributeBase e "values" X.env (eval e X.env) = eval e X.env := by rfl) (hline : (apos.endLine == cpos.line) = true := by rfl)
    (hs : starEach [.Call (.Attribute e "values" apos) [] [] cpos] X.env = (false, eval (.Call (.Attribute e "values" apos) [] [] cpos) X.env) :: starEach [] X.env := by rfl) :
    PE X (.Call (.Name "list" p) [.Call (.Attribute e "values" apos) [] [] cpos] [] pos) (tListVals te) := by
  refine ⟨fun pins s σ H Q I hq => ?_⟩
  refine wpAny_Call_Name_kw (ld_blt I hg hm hv ?_)
  refine PyProof.Rows.callWith_type1 ?_ hs rfl
  rw [hs]
  show wpAny _ _ (spliced ((false, eval (.Call (.Attribute e "values" apos) [] [] cpos) X.env) :: backTo pos (starEach [] X.env))) _ _ s
  refine Calls.spliced_cons ?_
  refine wpAny_Call_method (T := "dict") (id := "dict.values") hbase rfl hline F.plainAttrs_dict F.slot_dict_values F.type_dict_values (thn (he.run pins s σ H _ I hq) fun u s1 ⟨x, H1, I1, rx, d, kvs, ex, hd, q⟩ => ?_)
  subst ex
  obtain rfl : u = Value.ref d := rx
  obtain ⟨hz, hs0, vs, kv, hdo⟩ := dk_rd I1.hok hd
  obtain ⟨ep, hat⟩ := hdo.dictAt
  have lk : kvs.length = vs.length := Paired.length kv
  have I2 : Inv X pins σ H1 { s1 with heap := s1.heap.push { cls := .type "dict_values", data := .fields #[.ref d] } } := I1.kept (t' := s1.toks) fun b ob q => Heap.get?_push_of_some _ q
  refine ⟨hdo.typeIs, hdo.mapOf.noDict, ?_⟩
  show wpAny _ _ (callWith cpos (.builtin "dict.values") [.ref d] [] []) _ X.xe s1
  refine method_meetsIn F.slot_dict_values F.entry_dict_values rfl (PySem.evalArgs_none ⟨rfl, hdo.typeIs, F.args_dict_values_1 _, _, meets_dict_values (mixKind X.prog X.w) d hs0, ⟨vs, hdo⟩, ?_⟩)
  refine Calls.spliced_nil ?_
  refine PySem.W.kdl_call (PySem.W.kdl_values (knd := mixKind X.prog X.w) (kvs := vs) (ep := ep)) (I1.ok.hd hc) ⟨⟨_, Heap.get?_push_size _ rfl, rfl, rfl⟩, hat.push _⟩ (by omega) fun h' tk acc c hk hS hacc => ?_
  have hV : Vals (kvs.map (·.2)) acc.toList := vals_kv kv (by rw [Array.length_toList]; exact hacc.1) fun i v e => hacc.2 i v (by rw [← Array.getElem?_toList]; exact e)
  have hf := I2.hok.fresh (Nat.le_refl _)
  refine ⟨.ref _, upd H1 _ (.lst (kvs.map (·.2))), I2.laid (t' := tk) hk (Nat.le_refl _) (show ObjOk X.prog X.w _ _ _ (.lst (kvs.map (·.2))) from ⟨by rw [List.length_map]; omega, acc.toList, c, hV, by rw [Array.toArray_toList]; exact hS⟩), rfl, q _ hf⟩
def eVals (fo : SE) : Fx (List D) := fun env st => match fo env st with
  | some (x, s1) => (match dicG s1 x with
    | some p => some (p.2, s1)
    | none => none)
  | none => none
theorem d_vals {mg : Glob} {X : Cx} {e : Expr} {apos cpos pos p : Pos} {fo : SE} (hc : X.calm = true) (he : PE X e (tP mg fo)) (hm : X.mg "list" = none) (hg : Gl X "list" := by rfl) (hbase : attributeBase e "values" X.env (eval e X.env) = eval e X.env := by rfl) (hline : (apos.endLine == cpos.line) = true := by rfl)
    (hs : starEach [.Call (.Attribute e "values" apos) [] [] cpos] X.env = (false, eval (.Call (.Attribute e "values" apos) [] [] cpos) X.env) :: starEach [] X.env := by rfl) :
    PE X (.Call (.Name "list" p) [.Call (.Attribute e "values" apos) [] [] cpos] [] pos) (tL mg (eVals fo)) :=
  pe_weak (pe_listVals hc he hg hm (by decide +kernel) hbase hline hs) fun σ H Q ⟨E, N, c, env, st, d, st', R, q, k⟩ => by
    unfold eVals at q
    split at q
    · rename_i x s1 q1
      split at q
      · rename_i pp hp
        cases q
        refine ⟨E, N, c, env, st, x, _, R, q1, fun v N1 c1 H1 x1 W1 r1 => ?_⟩
        obtain ⟨a, kvs, rfl, ha, hn, r⟩ := RepT.dicG W1 r1 hp
        refine ⟨a, kvs, rfl, ha, fun l hl => ?_⟩
        exact k _ _ _ _ (x1.trans (Ex.laidN W1 hl) R.wd) (W1.laidN hl) (back_N R.wd x1 W1 (RN.laid W1 hl r))
      · cases q
    · cases q
/-! ### k in d, d[k]: dicts with tuple keys -/
theorem memT_val {kvs : List (List Key × V)} {k : List Key} : (valV kvs k).isSome = memT k (kvs.map (·.1)) := by rw [← anyT_mem, valV_any]
def oInKT (neg : Bool) : D → D → Sto → Option D := fun y x _ => match x with
  | .dit ks _ => (match keysD y with
    | some k => some (.bl (if neg then !memT k ks else memT k ks))
    | none => none)
  | _ => none
theorem ok_inKT {mg : Glob} : OpOk mg (RE mg) (fun y x H Q => ∃ a o, x = .ref a ∧ DGet H a y o ∧ Q (.bl o.isSome) H) (oInKT false) := by
  intro N c H st u v y x d Q W p1 p2 e k
  unfold oInKT at e
  split at e
  · rename_i ks ds
    split at e
    · rename_i kk hk
      cases e
      obtain ⟨a, kvs, rfl, ha, hn, r⟩ := RepT.dit p2
      obtain ⟨b, rfl, hb⟩ := RepT.keysT p1 hk
      refine ⟨a, _, rfl, .inr ⟨kvs, kk, b, ha, rfl, hb, rfl⟩, ?_⟩
      rw [memT_val, hn]
      exact k _ N c H Ex.refl W (.bl _)
    · cases e
  · cases e
theorem ok_ninKT {mg : Glob} : OpOk mg (RE mg) (fun y x H Q => ∃ a o, x = .ref a ∧ DGet H a y o ∧ Q (.bl (!o.isSome)) H) (oInKT true) := by
  intro N c H st u v y x d Q W p1 p2 e k
  unfold oInKT at e
  split at e
  · rename_i ks ds
    split at e
    · rename_i kk hk
      cases e
      obtain ⟨a, kvs, rfl, ha, hn, r⟩ := RepT.dit p2
      obtain ⟨b, rfl, hb⟩ := RepT.keysT p1 hk
      refine ⟨a, _, rfl, .inr ⟨kvs, kk, b, ha, rfl, hb, rfl⟩, ?_⟩
      rw [memT_val, hn]
      exact k _ N c H Ex.refl W (.bl _)
    · cases e
  · cases e
def eGetOT (i : Nat) (fk : SE) : SE := fun env st => match env[i]? with
  | some (.ownT ks vs) => (match fk env st with
    | some (y, s1) => (match keysD y with
      | some k => (match getDT ks vs k with
        | some d => some (d, s1)
        | none => none)
      | none => none)
    | none => none)
  | _ => none
def eInOT (i : Nat) (fk : SE) : SE := fun env st => match env[i]? with
  | some (.ownT ks vs) => (match fk env st with
    | some (y, s1) => (match keysD y with
      | some k => some (.bl (memT k ks), s1)
      | none => none)
    | none => none)
  | _ => none
section
variable {mg : Glob} {X : Cx} {a b ej : Expr} {pos : Pos} {fa fb fj : SE}
theorem d_inKT (hu : X.A.units + 1 < cLine) (ha : PE X a (tP mg fa)) (hb : PE X b (tP mg fb)) (h1 : behindInMarks .In b = false := by rfl) : PE X (.Compare a [.In] [b] pos) (tE mg (eOp (oInKT false) fa fb)) := pe_weak (pe_cmp (pc_din hu ha hb) h1) fun _ _ _ h => r_op ok_inKT back_E h
theorem d_ninKT (hu : X.A.units + 1 < cLine) (ha : PE X a (tP mg fa)) (hb : PE X b (tP mg fb)) (h1 : behindInMarks .NotIn b = false := by rfl) : PE X (.Compare a [.NotIn] [b] pos) (tE mg (eOp (oInKT true) fa fb)) := pe_weak (pe_cmp (pc_dnotin hu ha hb) h1) fun _ _ _ h => r_op ok_ninKT back_E h
theorem d_getOT (i : Nat) {x : Str} {p1 : Pos} (hu : X.A.units + 1 < cLine) (hj : PE X ej (tP mg fj)) (hN : X.N[i]? = some x := by rfl) (hv : Vis X.env.scope x := by first | exact Or.inl rfl | exact Or.inr (Or.inl rfl) | exact Or.inr (Or.inr rfl)) (hd : (x == ("__debug__" : Str)) = false := by decide)
    (hcd : (x == ("__classdict__" : Str)) = false := by decide) (hs : NoSl ej := by exact fun _ _ => rfl) : PE X (.Subscript (.Name x p1) ej pos) (tE mg (eGetOT i fj)) := pe_weak (pe_dget hu (pe_var hN hv hd hcd) hj hs) fun σ H Q ⟨E, N, c, env, st, d, st', R, q, k⟩ => by
  unfold eGetOT at q
  split at q
  · rename_i ks vs hx
    split at q
    · rename_i y s1 q1
      split at q
      · rename_i kk hk
        split at q
        · rename_i d0 hg
          cases q
          obtain ⟨a, kvs, ea, ha, rfl, rr⟩ := R.sl i _ hx
          have ea := join_some ea
          refine ⟨.ref a, ea, E, N, c, env, st, y, _, R, q1, fun w N1 c1 H1 x1 W1 r1 => ?_⟩
          have R1 := R.ex x1 W1
          obtain ⟨b, lvs, eb, hb, hm, r2⟩ := R1.sl i _ hx
          rw [ea] at eb
          cases eb
          rw [← hm] at hg
          obtain ⟨z, hz, rz⟩ := getT_rel r2 hg
          obtain ⟨t, rfl, ht⟩ := RepT.keysT r1 hk
          exact ⟨a, z, rfl, .inr ⟨lvs, kk, t, .inl hb, rfl, ht, hz.symm⟩, k z N1 c1 H1 x1 W1 rz⟩
        · cases q
      · cases q
    · cases q
  · cases q
theorem d_inOT (i : Nat) {x : Str} {p1 : Pos} (hu : X.A.units + 1 < cLine) (hj : PE X ej (tP mg fj)) (hN : X.N[i]? = some x := by rfl) (hv : Vis X.env.scope x := by first | exact Or.inl rfl | exact Or.inr (Or.inl rfl) | exact Or.inr (Or.inr rfl)) (hd : (x == ("__debug__" : Str)) = false := by decide)
    (hcd : (x == ("__classdict__" : Str)) = false := by decide) (h1 : behindInMarks .In (.Name x p1) = false := by rfl) : PE X (.Compare ej [.In] [.Name x p1] pos) (tE mg (eInOT i fj)) := pe_weak (pe_cmp (pc_din hu hj (pe_var hN hv hd hcd)) h1) fun σ H Q ⟨E, N, c, env, st, d, st', R, q, k⟩ => by
  unfold eInOT at q
  split at q
  · rename_i ks vs hx
    split at q
    · rename_i y s1 q1
      split at q
      · rename_i kk hk
        cases q
        obtain ⟨a, kvs, ea, ha, e0, rr⟩ := R.sl i _ hx
        have ea := join_some ea
        refine ⟨E, N, c, env, st, y, _, R, q1, fun w N1 c1 H1 x1 W1 r1 => ?_⟩
        have R1 := R.ex x1 W1
        obtain ⟨b, lvs, eb, hb, hm, r2⟩ := R1.sl i _ hx
        rw [ea] at eb
        cases eb
        obtain ⟨t, rfl, ht⟩ := RepT.keysT r1 hk
        refine ⟨.ref a, ea, a, _, rfl, .inr ⟨lvs, kk, t, .inl hb, rfl, ht, rfl⟩, ?_⟩
        rw [memT_val, hm]
        exact k _ N1 c1 H1 x1 W1 (.bl _)
      · cases q
    · cases q
  · cases q
end
/-! ### dict(d), one key at most -/
theorem kt_dictH {K : Type} [DecidableEq K] {prog : Program} {w : World} {knd : HeapKind prog w K} {A : Around} {E : Value → Shared → Prop} {s : Shared} {o : Addr} {more : List (K × Addr × Value)} {Q : Value → Shared → Prop} (st : knd.Stays) (hu : knd.room A.in1.in1) (hoS : (o == sysModules) = false) (ho : s.heap.DictOfH knd o more) (h1 : more.length ≤ 1)
    (h : ∀ h', h'.DictOfH knd s.heap.objs.size more → Heap.SameBut s.heap.objs.size (s.heap.push { cls := .type "dict", data := .dict #[] }) h' → Q (.ref s.heap.objs.size) { s with heap := h' }) :
    wpAny (model prog w) A (call (.type "dict") [.ref o]) Q E s := by
  refine callType_codes (Q₁ := fun obj s₁ => obj = .ref s.heap.objs.size ∧ s₁ = { s with heap := s.heap.push { cls := .type "dict", data := .dict #[] } }) F.kt_called_dict (F.kt_typeCall_dict_1 _) F.entry_dict_init (kt_code_dict_new _ ⟨rfl, rfl⟩) ?_
  rintro obj s₁ ⟨rfl, rfl⟩
  have hnew : (s.heap.push { cls := .type "dict", data := .dict #[] }).DictOfH knd s.heap.objs.size [] := Heap.DictOfH.new s.heap
  have hdo : s.heap.objs.size ≠ o := by
    obtain ⟨_, _, _, hg, _⟩ := ho
    exact fun e => absurd (Heap.lt_size hg) (by rw [e]; exact Nat.lt_irrefl _)
  have ho' : (s.heap.push { cls := .type "dict", data := .dict #[] }).DictOfH knd o more := by
    obtain ⟨_, _, _, _, _, _, _, his, _⟩ := id ho
    exact ho.at' (fun _ e => Heap.get?_push_of_some _ e) fun y hy => st.stays (fun b o _ _ e _ => Heap.get?_push_of_some _ e) (his y hy)
  have hn := ho.nodup
  refine ⟨hnew.typeIs, F.args_dict_init_2 _ _, ?_⟩
  unfold Builtin.«dict.__init__»
  refine wpAny_bind ?_
  unfold Builtin.Dict.selfAndRest
  refine wpAny_bind (wpAny_notOrdered_dict hnew.typeIs ?_)
  show wpAny _ _ (pure (s.heap.objs.size, [Value.ref o])) _ _ _
  refine wpAny_pure ?_
  have hap : (more.map fun x => knd.hash x.1).Nodup := by
    match more, h1 with
    | [], _ => exact List.nodup_nil
    | [_], _ => exact List.nodup_cons.mpr ⟨List.not_mem_nil, List.nodup_nil⟩
    | _ :: _ :: _, h => simp at h
  show wpAny _ _ (Builtin.Dict.updateFrom "dict.__init__" s.heap.objs.size (.ref o) [] .none) _ _ _
  unfold Builtin.Dict.updateFrom
  refine wpAny_bind (wpAny_typeOf ho'.typeIs ?_)
  rw [if_neg (by decide)]
  refine wpAny_bind ?_
  unfold Builtin.Dict.merge
  refine wpAny_bind ?_
  unfold Builtin.Dict.readDirectly
  refine wpAny_bind (wpAny_isInstance ho'.typeIs isSubtype_dict_dict ?_)
  simp only [Bool.not_true, Bool.false_eq_true, if_false]
  refine wpAny_bind (wpAny_specialOf ho'.typeIs F.slot_dict_iter.lookup (wpAny_pure ?_))
  simp only [beq_self_eq_true, if_true]
  refine wpAny_bind (wpAny_pure ?_)
  refine wpAny_mergeDict_heap (hsz := by rw [sizeLine_eq]; simp; omega) hu hdo hoS hnew ho' (.inr ⟨keyed_apart st ho', hap⟩) fun h' hd' _ hs' => ?_
  show wpAny _ _ (Builtin.Dict.addKeywords s.heap.objs.size [] >>= _) _ _ _
  rw [storedAllH_nil_of_nodup more hn] at hd'
  exact wpAny_bind (wpAny_pure (wpAny_pure ⟨rfl, h h' hd' hs'⟩))
def rDictT : List V → Hp → VK → Prop := fun xs H Q => ∃ (a : Addr) (kvs : List (List Key × V)), xs = [.ref a] ∧ Rd H a (.dT kvs) ∧ kvs.length ≤ 1 ∧ ∀ p, H p = none → Q (.ref p) (upd H p (.dT kvs))
theorem call_dictT {X : Cx} (hu : X.A.units + 2 < cLine) : CallR X (.type "dict") rDictT := by
  intro pins s σ H xs us Q I r q
  obtain ⟨a, kvs, ex, hd, h1, q⟩ := q
  subst ex
  obtain ⟨u, eu, rx⟩ := vals1 r
  subst eu
  cases rx
  obtain ⟨z, lo, vs, rel, dd⟩ := dt_rd I.hok hd
  have lk : kvs.length = vs.length := Paired.length rel
  refine kt_dictH tupleKind_stays (show X.A.in1.in1.units < cLine from hu) lo dd (by omega) fun h' d' hs => ?_
  have hm : (s.heap.objs.size == sysModules) = false := beq_eq_false_iff_ne.mpr (Nat.ne_of_gt I.big)
  have hf := I.hok.fresh (Nat.le_refl _)
  obtain ⟨o, es, ep, e1, e2, e3, e4, e5, e6⟩ := d'
  exact ⟨.ref s.heap.objs.size, upd H s.heap.objs.size (.dT kvs), I.laid (t' := s.toks) (fun b u e => (hs.2 b (Nat.ne_of_lt (Heap.lt_size e))).trans (Heap.get?_push_of_some _ e)) (Nat.le_refl _)
    (show ObjOk X.prog X.w _ _ _ (.dT kvs) from ⟨z, hm, vs, rel.keeps fun b ys e => by rw [upd_ne fun z => by rw [z, hf] at e; cases e]; exact e, o, es, ep, e1, e2, e3, e4, e6⟩), rfl, q _ hf⟩
def gDictT : List D → Sto → Option DKT := fun ds _ => match ds with
  | [.dit ks vs] => if ks.length ≤ 1 then some (ks, vs) else none
  | _ => none
theorem ok_dictT {mg : Glob} : BiOk mg (RDT mg) rDictT gDictT := by
  intro N c H st us ds d Q W p q k
  unfold gDictT at q
  split at q
  · rename_i ks vs
    split at q
    · rename_i h1
      cases q
      obtain ⟨u, rfl, h⟩ := tl1 p
      obtain ⟨a, kvs, rfl, ha, hn, r⟩ := RepT.dit h
      exact ⟨a, kvs, rfl, ha, by rw [← hn, List.length_map] at h1; exact h1, fun p hp => k _ _ _ _ (Ex.laidN W hp) (W.laidN hp) (RDT.laid W hp hn r)⟩
    · cases q
  · cases q
theorem d_dictT {mg : Glob} {X : Cx} {e : Expr} {es : List Expr} {p pos : Pos} {f : SA} (hu : X.A.units + 65 < cLine) (hm : X.mg "dict" = none) (ha : PA X (e :: es) (tAP mg f)) (hg : Gl X "dict" := by rfl) (he : starEach (e :: es) X.env = (false, eval e X.env) :: starEach es X.env := by rfl) (hpl : (backTo pos (starEach es X.env)).any (·.1) = false := by rfl) : PE X (.Call (.Name "dict" p) (e :: es) [] pos) (tDT mg (eBi gDictT f)) :=
  d_bt (call_dictT (by omega)) ok_dictT back_DT hg hm (by decide +kernel) ha (by decide) (by decide) he hpl
end LW

/-! LwPb: loops and comprehensions over written lists, step by step; forward rules of LwPa. -/
namespace LW
open PySem L2 PySem.Spec PyProof.Rows
section
variable {env env0 e1 : Env} {st s : Sto} {Q : D → Sto → Prop} {QL : List D → Sto → Prop} {QK : DK → Sto → Prop} {QT : DKT → Sto → Prop} {QS : Out → Sto → Prop} {QB : Bool → Sto → Prop} {i : Nat} {fe fk fv elt : SE} {f : SS} {cond : SB} {chk : Sto → Bool} {asg : D → Env → Option Env} {d : D} {ds : List D} {fs : SA}
end
end LW

/-! The walk of law_k14_rows_by_name: printed by gen.py. -/
namespace K14
open PySem L2 LW PyProof.Rows
structure Txt0 (K : PySem.W.Frag) (mg : Str → Option Value) (C_Rule : Addr) : Prop where
  F_Rule___eq__ : MT K C_Rule "__eq__" "Rule.__eq__" s_Rule___eq__
  F_Rule___init__ : ∃ f fd, Mk K C_Rule f ∧ Fun K "__init__" "Rule.__init__" s_Rule___init__ f fd
  F__law_right : FT K mg "_law_right" s__law_right
  F_alike : FT K mg "alike" s_alike
  F_all_joined : FT K mg "all_joined" s_all_joined
  F_alone : FT K mg "alone" s_alone
  F_alone_or : FT K mg "alone_or" s_alone_or
  F_are_hours : FT K mg "are_hours" s_are_hours
  F_are_terms : FT K mg "are_terms" s_are_terms
  F_behind_hours : FT K mg "behind_hours" s_behind_hours
  F_canonical : FT K mg "canonical" s_canonical
  F_check_flat : FT K mg "check_flat" s_check_flat
  F_check_hours : FT K mg "check_hours" s_check_hours
  F_check_parting : FT K mg "check_parting" s_check_parting
  F_check_rows : FT K mg "check_rows" s_check_rows
  F_check_rule : FT K mg "check_rule" s_check_rule
  F_columns : FT K mg "columns" s_columns
  F_copied : FT K mg "copied" s_copied
  F_dict_of : FT K mg "dict_of" s_dict_of
  F_dict_of_t : FT K mg "dict_of" s_dict_of_t
  F_far_hour : FT K mg "far_hour" s_far_hour
  F_hours_for : FT K mg "hours_for" s_hours_for
  F_in_order : FT K mg "in_order" s_in_order
  F_in_order_t : FT K mg "in_order" s_in_order_t
  F_is_hours : FT K mg "is_hours" s_is_hours
  F_is_name : FT K mg "is_name" s_is_name
  F_is_pair : FT K mg "is_pair" s_is_pair
  F_is_part : FT K mg "is_part" s_is_part
  F_is_reasons : FT K mg "is_reasons" s_is_reasons
  F_is_row : FT K mg "is_row" s_is_row
  F_is_term : FT K mg "is_term" s_is_term
  F_is_whole : FT K mg "is_whole" s_is_whole
  F_is_within : FT K mg "is_within" s_is_within
  F_is_within_t : FT K mg "is_within" s_is_within_t
  F_joined : FT K mg "joined" s_joined
  F_kept : FT K mg "kept" s_kept
  F_kept_t : FT K mg "kept" s_kept_t
  F_law : FT K mg "law" s_law
  F_lean : FT K mg "lean" s_lean
  F_least_hour : FT K mg "least_hour" s_least_hour
  F_least_or_none : FT K mg "least_or_none" s_least_or_none
  F_left_term : FT K mg "left_term" s_left_term
  F_less_of : FT K mg "less_of" s_less_of
  F_less_told : FT K mg "less_told" s_less_told
  F_letter_rows : FT K mg "letter_rows" s_letter_rows
  F_lots_by_size : FT K mg "lots_by_size" s_lots_by_size
  F_marked_term : FT K mg "marked_term" s_marked_term
  F_matters : FT K mg "matters" s_matters
  F_mirrored_term : FT K mg "mirrored_term" s_mirrored_term
  F_more_of : FT K mg "more_of" s_more_of
  F_most_or_none : FT K mg "most_or_none" s_most_or_none
  F_name_rows : FT K mg "name_rows" s_name_rows
  F_names_by : FT K mg "names_by" s_names_by
  F_names_in : FT K mg "names_in" s_names_in
  F_never_behind : FT K mg "never_behind" s_never_behind
  F_of_columns : FT K mg "of_columns" s_of_columns
  F_of_rows : FT K mg "of_rows" s_of_rows
  F_parting : FT K mg "parting" s_parting
  F_parts_from : FT K mg "parts_from" s_parts_from
  F_picked : FT K mg "picked" s_picked
  F_reasons : FT K mg "reasons" s_reasons
  F_row_hour : FT K mg "row_hour" s_row_hour
  F_row_of : FT K mg "row_of" s_row_of
  F_row_of_t : FT K mg "row_of" s_row_of_t
  F_rows : FT K mg "rows" s_rows
  F_slack : FT K mg "slack" s_slack
  F_slack_of : FT K mg "slack_of" s_slack_of
  F_standing : FT K mg "standing" s_standing
  F_telling : FT K mg "telling" s_telling
  F_term_of_columns : FT K mg "term_of_columns" s_term_of_columns
  F_term_of_row : FT K mg "term_of_row" s_term_of_row
  F_term_of_rows : FT K mg "term_of_rows" s_term_of_rows
  F_turned : FT K mg "turned" s_turned
  F_with_inside : FT K mg "with_inside" s_with_inside
  F_without_row : FT K mg "without_row" s_without_row
  a_Rule_form : NoAttr K C_Rule "form"
  c_Rule : mg "Rule" = some (.ref C_Rule)
  g_LETTERS : GS mg "LETTERS" "abcdefghijklmnopqrstuvwxyz"
  isi : Isi ⟨mg, K⟩ CS
  k_Rule : Cls K C_Rule
  n_bool : mg "bool" = none
  n_dict : mg "dict" = none
  n_enumerate : mg "enumerate" = none
  n_int : mg "int" = none
  n_isinstance : mg "isinstance" = none
  n_len : mg "len" = none
  n_list : mg "list" = none
  n_max : mg "max" = none
  n_min : mg "min" = none
  n_range : mg "range" = none
  n_set : mg "set" = none
  n_sorted : mg "sorted" = none
  n_str : mg "str" = none
  n_sum : mg "sum" = none
  n_tuple : mg "tuple" = none
  ne_Rule : PySem.W.findIn K (.ref C_Rule) "__ne__" = some (some (.builtin "object.__ne__"))
  nf_Rule : NotF ⟨mg, K⟩ CS C_Rule
  ob_Rule : PySem.W.mroIn K C_Rule (.type "object") = some true
section
variable {P : Program} {w : World} {K : PySem.W.Frag} {mg : Str → Option Value} {base : Heap} {C_Rule : Addr}
theorem u0 {k : Nat} {A : Around} (r : Room k A) : A.units < cLine := by have := r.un; omega
theorem u1 {k : Nat} {A : Around} (r : Room k A) : A.units + 1 < cLine := by have := r.un; omega
theorem u65 {k : Nat} {A : Around} (r : Room k A) : A.units + 65 < cLine := by have := r.un; omega
theorem u80 {k : Nat} {A : Around} (r : Room k A) : A.units + 80 < cLine := by have := r.un; omega
/-! ### is_whole -/
def b_is_whole : SS := sRet (eAnd (eBi (gIsi CS) (aCons (ePeek 0) (aCons (eC (.ty "int")) (aNil)))) (eNot (eBi (gIsi CS) (aCons (ePeek 0) (aCons (eC (.ty "bool")) (aNil))))))
def m_is_whole : FM := fnM 1 1 b_is_whole
theorem sc_is_whole : FnScope ["value"] ["value"] (defScope s_is_whole) := ⟨rfl, rfl, rfl, by decide +kernel, rfl, by decide +kernel, by decide +kernel⟩
theorem ok_is_whole (T : Txt0 K mg C_Rule) : OkF P w K mg base 1 "is_whole" ["value"] m_is_whole := by
  refine okF_mk (nm := ["value"]) T.F_is_whole sc_is_whole (fun _ _ _ _ _ _ us hl => match us, hl with | [_], _ => rfl) (fun f cdv A outer s H E hr => ?_)
  exact s_one (s_ret (v_and (d_peek (d_isi T.isi (T.n_isinstance) (p_cons (d_look 0) (p_cons (d_peek (d_ty (by rfl) (T.n_int) (by rfl))) (p_nil))))) (v_one (v_not (d_peek (d_isi T.isi (T.n_isinstance) (p_cons (d_look 0) (p_cons (d_peek (d_ty (by rfl) (T.n_bool) (by rfl))) (p_nil)))))))))
/-! ### is_name -/
def b_is_name : SS := sSeq (sIf (bOr (bNot (bOf (eBi (gIsi CS) (aCons (ePeek 0) (aCons (eC (.ty "str")) (aNil)))))) (bOr (bOf (eOp oLt (eBi gLen (aCons (ePeek 0) (aNil))) (eC (.int 1)))) (bOf (eOp oGt (eBi gLen (aCons (ePeek 0) (aNil))) (eC (.int 8))))))
  (sRet (eC (.bl false)))
  (sNil))
  (sRet (eOp oEq (eL (lComp (iSgn (ePeek 0)) (asgN 1) (bOf (eOp (oInS true) (ePeek 1) (eC (.str "abcdefghijklmnopqrstuvwxyz")))) (eVar 1) [1])) (eL (lDisp (aNil)))))
def m_is_name : FM := fnM 1 2 b_is_name
theorem sc_is_name : FnScope ["value", "sign"] ["value"] (defScope s_is_name) := ⟨rfl, rfl, rfl, by decide +kernel, rfl, by decide +kernel, by decide +kernel⟩
theorem ok_is_name (T : Txt0 K mg C_Rule) : OkF P w K mg base 1 "is_name" ["value"] m_is_name := by
  refine okF_mk (nm := ["value", "sign"]) T.F_is_name sc_is_name (fun _ _ _ _ _ _ us hl => match us, hl with | [_], _ => rfl) (fun f cdv A outer s H E hr => ?_)
  exact s_cons (s_if (w_pt (w_or (d_not (d_test (d_peek (d_isi T.isi (T.n_isinstance) (p_cons (d_look 0) (p_cons (d_peek (d_ty (by rfl) (T.n_str) (by rfl))) (p_nil))))))) (w_or (d_testC (d_peek (d_lt (d_peek (d_len (T.n_len) (p_cons (d_look 0) (p_nil)))) (d_peek (d_int))))) (w_or1 (d_testC (d_peek (d_gt (d_peek (d_len (T.n_len) (p_cons (d_look 0) (p_nil)))) (d_peek (d_int)))))))))
      (s_one (s_ret (d_bl)))
      (s_nil))
      (s_one (s_ret (d_eq hr.units (d_peek (d_give (d_lc rfl sc_is_name.nd (i_str (d_look 0)) (blkOk_by (own := [("sign", 1)]) (by first | (show blkC ["value", "sign"] (defScope s_is_name) _ _ = true; decide +kernel) | kernel_rfl | rfl)) (fun _ _ _ _ _ => t_name (i := 1) sc_is_name.nd) (gok_name 1) (by decide) (fun _ _ _ _ _ => pts_oneT (d_testC (d_peek (d_ninS (d_look 1) (d_peek (d_gstr T.g_LETTERS)))))) (fun _ _ _ _ _ => d_var 1)))) (d_peek (d_give (d_lst (a_nil)))))))
/-! ### is_term, are_terms (recursion) -/
def b_is_term (r_is_term r_are_terms : FM) : SS := sSeq (sIf (bOr (bNot (bOf (eBi (gIsi CS) (aCons (ePeek 0) (aCons (eC (.ty "tuple")) (aNil)))))) (bOr (bOf (eOp oLt (eBi gLen (aCons (ePeek 0) (aNil))) (eC (.int 2)))) (bNot (bOf (eBi (gIsi CS) (aCons (eOp oIx (ePeek 0) (eC (.int 0))) (aCons (eC (.ty "str")) (aNil))))))))
  (sRet (eC (.bl false)))
  (sNil))
  (sSeq (sIf (bOf (eOp (oInT false) (eOp oIx (ePeek 0) (eC (.int 0))) (eTup (aCons (eC (.str "of")) (aCons (eC (.str "now")) (aNil))))))
  (sRet (eAnd (eOp oEq (eBi gLen (aCons (ePeek 0) (aNil))) (eC (.int 3))) (eAnd (eCall m_is_name [] (aCons (eOp oIx (ePeek 0) (eC (.int 1))) (aNil))) (eCall m_is_whole [] (aCons (eOp oIx (ePeek 0) (eC (.int 2))) (aNil))))))
  (sNil))
  (sSeq (sIf (bOf (eOp (oInT false) (eOp oIx (ePeek 0) (eC (.int 0))) (eTup (aCons (eC (.str "first")) (aCons (eC (.str "last")) (aNil))))))
  (sRet (eAnd (eOp oEq (eBi gLen (aCons (ePeek 0) (aNil))) (eC (.int 2))) (eCall r_are_terms [] (aCons (eOp oIx (ePeek 0) (eC (.int 1))) (aNil)))))
  (sNil))
  (sSeq (sIf (bOr (bOf (eOp oNe (eOp oIx (ePeek 0) (eC (.int 0))) (eC (.str "rank")))) (bOr (bOf (eOp oNe (eBi gLen (aCons (ePeek 0) (aNil))) (eC (.int 3)))) (bOr (bNot (bOf (eCall m_is_whole [] (aCons (eOp oIx (ePeek 0) (eC (.int 1))) (aNil))))) (bNot (bOf (eCall r_are_terms [] (aCons (eOp oIx (ePeek 0) (eC (.int 2))) (aNil))))))))
  (sRet (eC (.bl false)))
  (sNil))
  (sRet (eChn (fun i j => decide (i ≤ j)) (fun i j => decide (i ≤ j)) (eC (.int 1)) (eOp oIx (ePeek 0) (eC (.int 1))) (eBi gLen (aCons (eOp oIx (ePeek 0) (eC (.int 2))) (aNil))))))))
def b_are_terms (r_is_term r_are_terms : FM) : SS := sSeq (sIf (bOr (bNot (bOf (eBi (gIsi CS) (aCons (ePeek 0) (aCons (eC (.ty "list")) (aNil)))))) (bOf (eOp oEq (ePeek 0) (eL (lDisp (aNil))))))
  (sRet (eC (.bl false)))
  (sNil))
  (sRet (eOp oEq (eL (lComp (iSeq (eVar 0)) (asgN 1) (bNot (bOf (eCall r_is_term [] (aCons (eVar 1) (aNil))))) (eVar 1) [1])) (eL (lDisp (aNil)))))
def st_is_term_are_terms (p : FM × FM) : FM × FM := (fnM 1 1 (b_is_term (p.1) (p.2)), fnM 1 2 (b_are_terms (p.1) (p.2)))
def mm_is_term_are_terms : Nat → FM × FM
  | 0 => (fun _ _ => none, fun _ _ => none)
  | n + 1 => st_is_term_are_terms (mm_is_term_are_terms n)
abbrev mr_is_term (n : Nat) : FM := (mm_is_term_are_terms n).1
abbrev m_is_term : FM := mr_is_term 22
abbrev mr_are_terms (n : Nat) : FM := (mm_is_term_are_terms n).2
theorem sc_is_term : FnScope ["value"] ["value"] (defScope s_is_term) := ⟨rfl, rfl, rfl, by decide +kernel, rfl, by decide +kernel, by decide +kernel⟩
theorem sc_are_terms : FnScope ["value", "one"] ["value"] (defScope s_are_terms) := ⟨rfl, rfl, rfl, by decide +kernel, rfl, by decide +kernel, by decide +kernel⟩
theorem okr_is_term_are_terms (T : Txt0 K mg C_Rule) : ∀ n : Nat, OkF P w K mg base (2 + n) "is_term" ["value"] (mr_is_term n) ∧ OkF P w K mg base (2 + n) "are_terms" ["value"] (mr_are_terms n)
  | 0 => ⟨okF_0 T.F_is_term (fun _ _ _ _ _ _ us hl => match us, hl with | [_], _ => rfl), okF_0 T.F_are_terms (fun _ _ _ _ _ _ us hl => match us, hl with | [_], _ => rfl)⟩
  | n + 1 => by
    obtain ⟨ih_is_term, ih_are_terms⟩ := okr_is_term_are_terms T n
    refine ⟨?_, ?_⟩
    · refine okF_mk (k := 2 + n) (nm := ["value"]) T.F_is_term sc_is_term (fun _ _ _ _ _ _ us hl => match us, hl with | [_], _ => rfl) (fun f cdv A outer s H E hr => ?_)
      have hr1 : Room 1 _ := hr.mono (by omega)
      exact s_cons (s_if (w_pt (w_or (d_not (d_test (d_peek (d_isi T.isi (T.n_isinstance) (p_cons (d_look 0) (p_cons (d_peek (d_ty (by rfl) (T.n_tuple) (by rfl))) (p_nil))))))) (w_or (d_testC (d_peek (d_lt (d_peek (d_len (T.n_len) (p_cons (d_look 0) (p_nil)))) (d_peek (d_int))))) (w_or1 (d_not (d_test (d_peek (d_isi T.isi (T.n_isinstance) (p_cons (d_peek (d_ix (d_look 0) (d_peek (d_int)))) (p_cons (d_peek (d_ty (by rfl) (T.n_str) (by rfl))) (p_nil)))))))))))
            (s_one (s_ret (d_bl)))
            (s_nil))
            (s_cons (s_if (d_testC (d_peek (d_inT (d_peek (d_ix (d_look 0) (d_peek (d_int)))) (d_peek (d_tup (a_cons (d_str) (a_cons (d_str) (a_nil))))))))
            (s_one (s_ret (v_and (d_peek (d_eq hr.units (d_peek (d_len (T.n_len) (p_cons (d_look 0) (p_nil)))) (d_peek (d_int)))) (v_and (d_peek (c_call (ok_is_name T) hr1 (a_cons (d_ix (d_look 0) (d_peek (d_int))) (a_nil)))) (v_one (c_call (ok_is_whole T) hr1 (a_cons (d_ix (d_look 0) (d_peek (d_int))) (a_nil))))))))
            (s_nil))
            (s_cons (s_if (d_testC (d_peek (d_inT (d_peek (d_ix (d_look 0) (d_peek (d_int)))) (d_peek (d_tup (a_cons (d_str) (a_cons (d_str) (a_nil))))))))
            (s_one (s_ret (v_and (d_peek (d_eq hr.units (d_peek (d_len (T.n_len) (p_cons (d_look 0) (p_nil)))) (d_peek (d_int)))) (v_one (c_call ih_are_terms hr (a_cons (d_ix (d_look 0) (d_peek (d_int))) (a_nil)))))))
            (s_nil))
            (s_cons (s_if (w_pt (w_or (d_testC (d_peek (d_ne hr.units (d_peek (d_ix (d_look 0) (d_peek (d_int)))) (d_peek (d_str))))) (w_or (d_testC (d_peek (d_ne hr.units (d_peek (d_len (T.n_len) (p_cons (d_look 0) (p_nil)))) (d_peek (d_int))))) (w_or (d_not (d_test (d_peek (c_call (ok_is_whole T) hr1 (a_cons (d_ix (d_look 0) (d_peek (d_int))) (a_nil)))))) (w_or1 (d_not (d_test (d_peek (c_call ih_are_terms hr (a_cons (d_ix (d_look 0) (d_peek (d_int))) (a_nil)))))))))))
            (s_one (s_ret (d_bl)))
            (s_nil))
            (s_one (s_ret (d_chn op_le op_le (d_peek (d_int)) (d_peek (d_ix (d_look 0) (d_peek (d_int)))) (d_peek (d_len (T.n_len) (p_cons (d_peek (d_ix (d_look 0) (d_peek (d_int)))) (p_nil))))))))))
    · refine okF_mk (k := 2 + n) (nm := ["value", "one"]) T.F_are_terms sc_are_terms (fun _ _ _ _ _ _ us hl => match us, hl with | [_], _ => rfl) (fun f cdv A outer s H E hr => ?_)
      exact s_cons (s_if (w_pt (w_or (d_not (d_test (d_peek (d_isi T.isi (T.n_isinstance) (p_cons (d_look 0) (p_cons (d_peek (d_ty (by rfl) (T.n_list) (by rfl))) (p_nil))))))) (w_or1 (d_testC (d_peek (d_eq hr.units (d_look 0) (d_peek (d_give (d_lst (a_nil))))))))))
            (s_one (s_ret (d_bl)))
            (s_nil))
            (s_one (s_ret (d_eq hr.units (d_peek (d_give (d_lc rfl sc_are_terms.nd (i_seq (d_var 0)) (blkOk_by (own := [("one", 1)]) (by first | (show blkC ["value", "one"] (defScope s_are_terms) _ _ = true; decide +kernel) | kernel_rfl | rfl)) (fun _ _ _ _ _ => t_name (i := 1) sc_are_terms.nd) (gok_name 1) (by decide) (fun _ _ _ _ _ => pts_oneT (d_not (d_test (d_peek (c_call ih_is_term hr (a_cons (d_var 1) (a_nil))))))) (fun _ _ _ _ _ => d_var 1)))) (d_peek (d_give (d_lst (a_nil)))))))
theorem ok_is_term (T : Txt0 K mg C_Rule) : OkF P w K mg base 24 "is_term" ["value"] m_is_term := (okr_is_term_are_terms T 22).1
/-! ### is_part -/
def b_is_part : SS := sRet (eOp (oInT false) (eOp oIx (ePeek 0) (eC (.int 0))) (eTup (aCons (eC (.str "of")) (aCons (eC (.str "now")) (aNil)))))
def m_is_part : FM := fnM 1 1 b_is_part
theorem sc_is_part : FnScope ["term"] ["term"] (defScope s_is_part) := ⟨rfl, rfl, rfl, by decide +kernel, rfl, by decide +kernel, by decide +kernel⟩
theorem ok_is_part (T : Txt0 K mg C_Rule) : OkF P w K mg base 1 "is_part" ["term"] m_is_part := by
  refine okF_mk (nm := ["term"]) T.F_is_part sc_is_part (fun _ _ _ _ _ _ us hl => match us, hl with | [_], _ => rfl) (fun f cdv A outer s H E hr => ?_)
  exact s_one (s_ret (d_inT (d_peek (d_ix (d_look 0) (d_peek (d_int)))) (d_peek (d_tup (a_cons (d_str) (a_cons (d_str) (a_nil)))))))
/-! ### with_inside -/
def b_with_inside : SS := sRet (eOp oAdd (eSl slT (ePeek 0) (oNone) (oSome (eNeg (eC (.int 1))))) (eTup (aCons (eVar 1) (aNil))))
def m_with_inside : FM := fnM 2 2 b_with_inside
theorem sc_with_inside : FnScope ["term", "inner"] ["term", "inner"] (defScope s_with_inside) := ⟨rfl, rfl, rfl, by decide +kernel, rfl, by decide +kernel, by decide +kernel⟩
theorem ok_with_inside (T : Txt0 K mg C_Rule) : OkF P w K mg base 1 "with_inside" ["term", "inner"] m_with_inside := by
  refine okF_mk (nm := ["term", "inner"]) T.F_with_inside sc_with_inside (fun _ _ _ _ _ _ us hl => match us, hl with | [_, _], _ => rfl) (fun f cdv A outer s H E hr => ?_)
  exact s_one (s_ret (d_add (d_peek (d_slT (d_look 0) (o_none) (o_some (d_peek (d_neg (d_peek (d_int))))))) (d_peek (d_tup (a_cons (d_var 1) (a_nil))))))
/-! ### copied (recursion) -/
def b_copied (r_copied : FM) : SS := sRet (eIf (bOf (eCall m_is_part [] (aCons (eVar 0) (aNil)))) (eVar 0) (eCall m_with_inside [] (aCons (eVar 0) (aCons (eL (lComp (iSeq (eOp oIx (ePeek 0) (eNeg (eC (.int 1))))) (asgN 1) (bYes) (eCall r_copied [] (aCons (eVar 1) (aNil))) [1])) (aNil)))))
def st_copied (p : FM) : FM := (fnM 1 2 (b_copied (p)))
def mm_copied : Nat → FM
  | 0 => (fun _ _ => none)
  | n + 1 => st_copied (mm_copied n)
abbrev mr_copied (n : Nat) : FM := (mm_copied n)
abbrev m_copied : FM := mr_copied 11
theorem sc_copied : FnScope ["term", "one"] ["term"] (defScope s_copied) := ⟨rfl, rfl, rfl, by decide +kernel, rfl, by decide +kernel, by decide +kernel⟩
theorem okr_copied (T : Txt0 K mg C_Rule) : ∀ n : Nat, OkF P w K mg base (2 + n) "copied" ["term"] (mr_copied n)
  | 0 => okF_0 T.F_copied (fun _ _ _ _ _ _ us hl => match us, hl with | [_], _ => rfl)
  | n + 1 => by
    have ih_copied := okr_copied T n
    refine okF_mk (k := 2 + n) (nm := ["term", "one"]) T.F_copied sc_copied (fun _ _ _ _ _ _ us hl => match us, hl with | [_], _ => rfl) (fun f cdv A outer s H E hr => ?_)
    have hr1 : Room 1 _ := hr.mono (by omega)
    exact s_one (s_ret (d_if (d_test (d_peek (c_call (ok_is_part T) hr1 (a_cons (d_var 0) (a_nil))))) (d_var 0) (c_call (ok_with_inside T) hr1 (a_cons (d_var 0) (a_cons (d_give (d_lc rfl sc_copied.nd (i_seq (d_ix (d_look 0) (d_peek (d_neg (d_peek (d_int)))))) (blkOk_by (own := [("one", 1)]) (by first | (show blkC ["term", "one"] (defScope s_copied) _ _ = true; decide +kernel) | kernel_rfl | rfl)) (fun _ _ _ _ _ => t_name (i := 1) sc_copied.nd) (gok_name 1) (by decide) (fun _ _ _ _ _ => pts_nilT) (fun _ _ _ _ _ => c_call ih_copied hr (a_cons (d_var 1) (a_nil))))) (a_nil))))))
theorem ok_copied (T : Txt0 K mg C_Rule) : OkF P w K mg base 13 "copied" ["term"] m_copied := (okr_copied T 11)
/-! ### Rule.__init__ -/
def b_Rule___init__ : SS := sSeq (sIf (bNot (bOf (eCall m_is_term [] (aCons (eVar 1) (aNil)))))
  (sNever)
  (sNil))
  (sFld "Rule" 0 "form" (eCall m_copied [] (aCons (eVar 1) (aNil))))
def m_Rule___init__ : FI := initM "Rule" 1 2 b_Rule___init__
theorem sc_Rule___init__ : FnScope ["self", "term"] ["self", "term"] (defScope s_Rule___init__) := ⟨rfl, rfl, rfl, by decide +kernel, rfl, by decide +kernel, by decide +kernel⟩
theorem ok_Rule___init__ (T : Txt0 K mg C_Rule) : OkC P w K mg base 25 "Rule" C_Rule 1 ["self", "term"] m_Rule___init__ := by
  refine okC_mk (nm := ["self", "term"]) T.F_Rule___init__ sc_Rule___init__ rfl rfl (fun _ _ _ _ _ _ us hl => match us, hl with | [_, _], _ => rfl) (fun f cdv A outer s H E hr => ?_)
  have hr13 : Room 13 _ := hr.mono (by decide)
  have hr24 : Room 24 _ := hr.mono (by decide)
  exact s_cons (s_if (d_not (d_test (d_peek (c_call (ok_is_term T) hr24 (a_cons (d_var 1) (a_nil))))))
      (s_one (s_never))
      (s_nil))
      (s_one (s_fld (i := 0) T.c_Rule T.k_Rule T.a_Rule_form (c_call (ok_copied T) hr13 (a_cons (d_var 1) (a_nil)))))
/-! ### check_rule -/
def b_check_rule : SS := sIf (bNot (bOf (eBi (gIsi CS) (aCons (ePeek 0) (aCons (eC (.cls "Rule")) (aNil))))))
  (sNever)
  (sNil)
def m_check_rule : FM := fnM 1 1 b_check_rule
theorem sc_check_rule : FnScope ["value"] ["value"] (defScope s_check_rule) := ⟨rfl, rfl, rfl, by decide +kernel, rfl, by decide +kernel, by decide +kernel⟩
theorem ok_check_rule (T : Txt0 K mg C_Rule) : OkF P w K mg base 1 "check_rule" ["value"] m_check_rule := by
  refine okF_mk (nm := ["value"]) T.F_check_rule sc_check_rule (fun _ _ _ _ _ _ us hl => match us, hl with | [_], _ => rfl) (fun f cdv A outer s H E hr => ?_)
  exact s_one (s_if (d_not (d_test (d_peek (d_isi T.isi (T.n_isinstance) (p_cons (d_look 0) (p_cons (d_peek (d_cls (by rfl) T.c_Rule)) (p_nil)))))))
      (s_one (s_never))
      (s_nil))
/-! ### parts_from (recursion) -/
def b_parts_from (r_parts_from : FM) : SS := sSeq (sIf (bOf (eCall m_is_part [] (aCons (eVar 0) (aNil))))
  (sRet (eL (lDisp (aCons (eTup (aCons (eVar 1) (aCons (eVar 0) (aNil)))) (aNil)))))
  (sNil))
  (sSeq (sSet 2 (eL (lDisp (aNil))))
  (sSeq (sFor (iEnm (aCons (eOp oIx (ePeek 0) (eNeg (eC (.int 1)))) (aNil))) (asgT [3, 4])
  (sSet 2 (eOp oAdd (ePeek 2) (eCall r_parts_from [] (aCons (eVar 4) (aCons (eOp oAdd (ePeek 1) (eTup (aCons (eVar 3) (aNil)))) (aNil)))))))
  (sRet (eVar 2))))
def st_parts_from (p : FM) : FM := (fnM 2 5 (b_parts_from (p)))
def mm_parts_from : Nat → FM
  | 0 => (fun _ _ => none)
  | n + 1 => st_parts_from (mm_parts_from n)
abbrev mr_parts_from (n : Nat) : FM := (mm_parts_from n)
abbrev m_parts_from : FM := mr_parts_from 11
theorem sc_parts_from : FnScope ["term", "path", "found", "at", "one"] ["term", "path"] (defScope s_parts_from) := ⟨rfl, rfl, rfl, by decide +kernel, rfl, by decide +kernel, by decide +kernel⟩
theorem okr_parts_from (T : Txt0 K mg C_Rule) : ∀ n : Nat, OkF P w K mg base (2 + n) "parts_from" ["term", "path"] (mr_parts_from n)
  | 0 => okF_0 T.F_parts_from (fun _ _ _ _ _ _ us hl => match us, hl with | [_, _], _ => rfl)
  | n + 1 => by
    have ih_parts_from := okr_parts_from T n
    refine okF_mk (k := 2 + n) (nm := ["term", "path", "found", "at", "one"]) T.F_parts_from sc_parts_from (fun _ _ _ _ _ _ us hl => match us, hl with | [_, _], _ => rfl) (fun f cdv A outer s H E hr => ?_)
    have hr1 : Room 1 _ := hr.mono (by omega)
    exact s_cons (s_if (d_test (d_peek (c_call (ok_is_part T) hr1 (a_cons (d_var 0) (a_nil)))))
            (s_one (s_ret (d_give (d_lst (a_cons (d_tup (a_cons (d_var 1) (a_cons (d_var 0) (a_nil)))) (a_nil))))))
            (s_nil))
            (s_cons (s_set (i := 2) sc_parts_from.nd (d_give (d_lst (a_nil))))
            (s_cons (s_for PassesOwn.never rfl (i_enum (T.n_enumerate) (a_cons (d_ix (d_look 0) (d_peek (d_neg (d_peek (d_int))))) (a_nil))) (t_tup rfl (g_cons (i := 3) sc_parts_from.nd (g_cons (i := 4) sc_parts_from.nd (g_nil))) (n := 2)) (gok_tup [3, 4] 2 rfl)
            (s_one (s_set (i := 2) sc_parts_from.nd (d_add (d_look 2) (d_peek (c_call ih_parts_from hr (a_cons (d_var 4) (a_cons (d_add (d_look 1) (d_peek (d_tup (a_cons (d_var 3) (a_nil))))) (a_nil)))))))))
            (s_one (s_ret (d_var 2)))))
theorem ok_parts_from (T : Txt0 K mg C_Rule) : OkF P w K mg base 13 "parts_from" ["term", "path"] m_parts_from := (okr_parts_from T 11)
/-! ### names_by -/
def b_names_by : SS := sRet (eL (eSN (eL (lComp (iSeq (eCall m_parts_from [] (aCons (eVar 0) (aCons (eTup (aNil)) (aNil))))) (asgT [2, 3]) (bOf (eOp oEq (eOp oIx (ePeek 3) (eC (.int 0))) (ePeek 1))) (eOp oIx (ePeek 3) (eC (.int 1))) [2, 3]))))
def m_names_by : FM := fnM 2 4 b_names_by
theorem sc_names_by : FnScope ["term", "word", "path", "part"] ["term", "word"] (defScope s_names_by) := ⟨rfl, rfl, rfl, by decide +kernel, rfl, by decide +kernel, by decide +kernel⟩
theorem ok_names_by (T : Txt0 K mg C_Rule) : OkF P w K mg base 14 "names_by" ["term", "word"] m_names_by := by
  refine okF_mk (nm := ["term", "word", "path", "part"]) T.F_names_by sc_names_by (fun _ _ _ _ _ _ us hl => match us, hl with | [_, _], _ => rfl) (fun f cdv A outer s H E hr => ?_)
  have hr13 : Room 13 _ := hr.mono (by decide)
  exact s_one (s_ret (d_give (d_sn rfl T.n_sorted T.n_set (d_peek (d_give (d_lc rfl sc_names_by.nd (i_seq (c_call (ok_parts_from T) hr13 (a_cons (d_var 0) (a_cons (d_tup (a_nil)) (a_nil))))) (blkOk_by (own := [("path", 2), ("part", 3)]) (by first | (show blkC ["term", "word", "path", "part"] (defScope s_names_by) _ _ = true; decide +kernel) | kernel_rfl | rfl)) (fun _ _ _ _ _ => t_tup rfl (g_cons (i := 2) sc_names_by.nd (g_cons (i := 3) sc_names_by.nd (g_nil))) (n := 2)) (gok_tup [2, 3] 2 rfl) (by decide) (fun _ _ _ _ _ => pts_oneT (d_testC (d_peek (d_eq hr.units (d_peek (d_ix (d_look 3) (d_peek (d_int)))) (d_look 1))))) (fun _ _ _ _ _ => d_ix (d_look 3) (d_peek (d_int)))))))))
/-! ### check_flat -/
def b_check_flat : SS := sSeq (sDrop (eCall m_check_rule [] (aCons (eVar 0) (aNil))))
  (sIf (bOf (eOp oNe (eCall m_names_by [] (aCons (eFld "Rule" "form" (ePeek 0)) (aCons (eC (.str "now")) (aNil)))) (eL (lDisp (aNil)))))
  (sNever)
  (sNil))
def m_check_flat : FM := fnM 1 1 b_check_flat
theorem sc_check_flat : FnScope ["value"] ["value"] (defScope s_check_flat) := ⟨rfl, rfl, rfl, by decide +kernel, rfl, by decide +kernel, by decide +kernel⟩
theorem ok_check_flat (T : Txt0 K mg C_Rule) : OkF P w K mg base 15 "check_flat" ["value"] m_check_flat := by
  refine okF_mk (nm := ["value"]) T.F_check_flat sc_check_flat (fun _ _ _ _ _ _ us hl => match us, hl with | [_], _ => rfl) (fun f cdv A outer s H E hr => ?_)
  have hr1 : Room 1 _ := hr.mono (by decide)
  have hr14 : Room 14 _ := hr.mono (by decide)
  exact s_cons (s_drop (d_peek (c_call (ok_check_rule T) hr1 (a_cons (d_var 0) (a_nil)))))
      (s_one (s_if (d_testC (d_peek (d_ne hr.units (d_peek (c_call (ok_names_by T) hr14 (a_cons (d_fld (d_look 0) T.c_Rule T.k_Rule T.a_Rule_form) (a_cons (d_str) (a_nil))))) (d_peek (d_give (d_lst (a_nil)))))))
      (s_one (s_never))
      (s_nil)))
/-! ### is_within -/
def b_is_within : SS := sRet (eOp oEq (eL (lComp (iKy 0) (asgN 2) (bOr (bOf (eOp (oInK true) (ePeek 2) (ePeek 1))) (bOf (eOp oLt (eOp oDx (ePeek 1) (ePeek 2)) (eOp oDx (ePeek 0) (ePeek 2))))) (eVar 2) [2])) (eL (lDisp (aNil))))
def m_is_within : FM := fnM 2 3 b_is_within
theorem sc_is_within : FnScope ["one", "other", "key"] ["one", "other"] (defScope s_is_within) := ⟨rfl, rfl, rfl, by decide +kernel, rfl, by decide +kernel, by decide +kernel⟩
theorem ok_is_within (T : Txt0 K mg C_Rule) : OkF P w K mg base 1 "is_within" ["one", "other"] m_is_within := by
  refine okF_mk (nm := ["one", "other", "key"]) T.F_is_within sc_is_within (fun _ _ _ _ _ _ us hl => match us, hl with | [_, _], _ => rfl) (fun f cdv A outer s H E hr => ?_)
  exact s_one (s_ret (d_eq hr.units (d_peek (d_give (d_lcK 0 rfl sc_is_within.nd (blkOk_by (own := [("key", 2)]) (by first | (show blkC ["one", "other", "key"] (defScope s_is_within) _ _ = true; decide +kernel) | kernel_rfl | rfl)) (fun _ _ _ _ _ => t_name (i := 2) sc_is_within.nd) (gok_name 2) (by decide) (fun _ _ _ _ _ => pts_oneT (w_pt (w_or (d_testC (d_peek (d_ninK (u1 hr) (d_look 2) (d_look 1)))) (w_or1 (d_testC (d_peek (d_lt (d_peek (d_dx (u1 hr) (d_look 1) (d_look 2))) (d_peek (d_dx (u1 hr) (d_look 0) (d_look 2)))))))))) (fun _ _ _ _ _ => d_var 2)))) (d_peek (d_give (d_lst (a_nil))))))
/-! ### without_row -/
def b_without_row : SS := sSeq (sFor (iSeq (eVar 1)) (asgN 2)
  (sIf (bOf (eOp oEqN (eL (lComp (iSeq (eVar 0)) (asgN 3) (bOf (eCall m_is_within [] (aCons (eVar 3) (aCons (eVar 2) (aNil))))) (eVar 3) [3])) (eL (lDisp (aNil)))))
  (sRet (eVar 2))
  (sNil)))
  (sRet (eC .non))
def m_without_row : FM := fnM 2 4 b_without_row
theorem sc_without_row : FnScope ["some", "others", "row", "one"] ["some", "others"] (defScope s_without_row) := ⟨rfl, rfl, rfl, by decide +kernel, rfl, by decide +kernel, by decide +kernel⟩
theorem ok_without_row (T : Txt0 K mg C_Rule) : OkF P w K mg base 2 "without_row" ["some", "others"] m_without_row := by
  refine okF_mk (nm := ["some", "others", "row", "one"]) T.F_without_row sc_without_row (fun _ _ _ _ _ _ us hl => match us, hl with | [_, _], _ => rfl) (fun f cdv A outer s H E hr => ?_)
  have hr1 : Room 1 _ := hr.mono (by decide)
  exact s_cons (s_for PassesOwn.never rfl (i_seq (d_var 1)) (t_name (i := 2) sc_without_row.nd) (gok_name 2)
      (s_one (s_if (d_testC (d_peek (d_eqN (u0 hr) (d_peek (d_give (d_lc rfl sc_without_row.nd (i_seq (d_var 0)) (blkOk_by (own := [("one", 3)]) (by first | (show blkC ["some", "others", "row", "one"] (defScope s_without_row) _ _ = true; decide +kernel) | kernel_rfl | rfl)) (fun _ _ _ _ _ => t_name (i := 3) sc_without_row.nd) (gok_name 3) (by decide) (fun _ _ _ _ _ => pts_oneT (d_test (d_peek (c_call (ok_is_within T) hr1 (a_cons (d_var 3) (a_cons (d_var 2) (a_nil))))))) (fun _ _ _ _ _ => d_var 3)))) (d_peek (d_give (d_lst (a_nil)))))))
      (s_one (s_ret (d_var 2)))
      (s_nil))))
      (s_one (s_ret (d_non)))
/-! ### row_of@t -/
def b_row_of_t : SS := sRet (eL (eBi gSortX (aCons (eL (lComp (iKyT 0) (asgN 1) (bYes) (eTup (aCons (eVar 1) (aCons (eOp oDxT (ePeek 0) (ePeek 1)) (aNil)))) [1])) (aNil))))
def m_row_of_t : FM := fnM 1 2 b_row_of_t
theorem sc_row_of_t : FnScope ["row", "key"] ["row"] (defScope s_row_of_t) := ⟨rfl, rfl, rfl, by decide +kernel, rfl, by decide +kernel, by decide +kernel⟩
theorem ok_row_of_t (T : Txt0 K mg C_Rule) : OkF P w K mg base 1 "row_of" ["row"] m_row_of_t := by
  refine okF_mk (nm := ["row", "key"]) T.F_row_of_t sc_row_of_t (fun _ _ _ _ _ _ us hl => match us, hl with | [_], _ => rfl) (fun f cdv A outer s H E hr => ?_)
  exact s_one (s_ret (d_give (d_sortX (u80 hr) T.n_sorted (p_cons (d_peek (d_give (d_lcKT 0 rfl sc_row_of_t.nd (blkOk_by (own := [("key", 1)]) (by first | (show blkC ["row", "key"] (defScope s_row_of_t) _ _ = true; decide +kernel) | kernel_rfl | rfl)) (fun _ _ _ _ _ => t_name (i := 1) sc_row_of_t.nd) (gok_name 1) (by decide) (fun _ _ _ _ _ => pts_nilT) (fun _ _ _ _ _ => d_tup (a_cons (d_var 1) (a_cons (d_dxT (u1 hr) (d_look 0) (d_look 1)) (a_nil))))))) (p_nil)))))
/-! ### dict_of@t -/
def b_dict_of_t : SS := sRet (eDT (dCompT (iSeq (eVar 0)) (asgT [1, 2]) (bYes) (eVar 1) (eVar 2) [1, 2]))
def m_dict_of_t : FM := fnM 1 3 b_dict_of_t
theorem sc_dict_of_t : FnScope ["row", "key", "wait"] ["row"] (defScope s_dict_of_t) := ⟨rfl, rfl, rfl, by decide +kernel, rfl, by decide +kernel, by decide +kernel⟩
theorem ok_dict_of_t (T : Txt0 K mg C_Rule) : OkF P w K mg base 1 "dict_of" ["row"] m_dict_of_t := by
  refine okF_mk (nm := ["row", "key", "wait"]) T.F_dict_of_t sc_dict_of_t (fun _ _ _ _ _ _ us hl => match us, hl with | [_], _ => rfl) (fun f cdv A outer s H E hr => ?_)
  exact s_one (s_ret (d_giveDT (d_dcT (u0 hr) rfl sc_dict_of_t.nd (i_seq (d_var 0)) (blkOk_by (own := [("key", 1), ("wait", 2)]) (by first | (show blkC ["row", "key", "wait"] (defScope s_dict_of_t) _ _ = true; decide +kernel) | kernel_rfl | rfl)) (fun _ _ _ _ _ => t_tup rfl (g_cons (i := 1) sc_dict_of_t.nd (g_cons (i := 2) sc_dict_of_t.nd (g_nil))) (n := 2)) (gok_tup [1, 2] 2 rfl) (by decide) (fun _ _ _ _ _ => pts_nilT) (fun _ _ _ _ _ => d_var 1) (fun _ _ _ _ _ => d_var 2))))
/-! ### in_order@t -/
def b_in_order_t : SS := sSeq (sOwn 1 (lDisp (aNil)))
  (sSeq (sFor (iSeq (eL (eBi gSortX (aCons (eL (lComp (iSeq (eVar 0)) (asgN 3) (bYes) (eCall m_row_of_t [] (aCons (eVar 3) (aNil))) [3])) (aNil))))) (asgN 2)
  (sIf (bOr (bOf (eOp oEq (ePeek 1) (eL (lDisp (aNil))))) (bOf (eOp oNe (eOp oIx (ePeek 1) (eNeg (eC (.int 1)))) (ePeek 2))))
  (sApp 1 (eVar 2))
  (sNil)))
  (sFrz 1 (sRet (eL (lComp (iSeq (eVar 1)) (asgN 2) (bYes) (eCall m_dict_of_t [] (aCons (eVar 2) (aNil))) [2])))))
def m_in_order_t : FM := fnM 1 4 b_in_order_t
theorem sc_in_order_t : FnScope ["some", "found", "items", "row"] ["some"] (defScope s_in_order_t) := ⟨rfl, rfl, rfl, by decide +kernel, rfl, by decide +kernel, by decide +kernel⟩
theorem ok_in_order_t (T : Txt0 K mg C_Rule) : OkF P w K mg base 2 "in_order" ["some"] m_in_order_t := by
  refine okF_mk (nm := ["some", "found", "items", "row"]) T.F_in_order_t sc_in_order_t (fun _ _ _ _ _ _ us hl => match us, hl with | [_], _ => rfl) (fun f cdv A outer s H E hr => ?_)
  have hr1 : Room 1 _ := hr.mono (by decide)
  exact s_cons (s_own (i := 1) sc_in_order_t.nd (d_lst (a_nil)))
      (s_cons (s_for PassesOwn.never rfl (i_seq (d_give (d_sortX (u80 hr) T.n_sorted (p_cons (d_peek (d_give (d_lc rfl sc_in_order_t.nd (i_seq (d_var 0)) (blkOk_by (own := [("row", 3)]) (by first | (show blkC ["some", "found", "items", "row"] (defScope s_in_order_t) _ _ = true; decide +kernel) | kernel_rfl | rfl)) (fun _ _ _ _ _ => t_name (i := 3) sc_in_order_t.nd) (gok_name 3) (by decide) (fun _ _ _ _ _ => pts_nilT) (fun _ _ _ _ _ => c_call (ok_row_of_t T) hr1 (a_cons (d_var 3) (a_nil)))))) (p_nil))))) (t_name (i := 2) sc_in_order_t.nd) (gok_name 2)
      (s_one (s_if (w_pt (w_or (d_testC (d_peek (d_eq hr.units (d_look 1) (d_peek (d_give (d_lst (a_nil))))))) (w_or1 (d_testC (d_peek (d_ne hr.units (d_peek (d_ix (d_look 1) (d_peek (d_neg (d_peek (d_int)))))) (d_look 2)))))))
      (s_one (s_app (i := 1) (d_var 2)))
      (s_nil))))
      (s_one (s_frz 1 (s_ret (d_give (d_lc rfl sc_in_order_t.nd (i_seq (d_var 1)) (blkOk_by (own := [("items", 2)]) (by first | (show blkC ["some", "found", "items", "row"] (defScope s_in_order_t) _ _ = true; decide +kernel) | kernel_rfl | rfl)) (fun _ _ _ _ _ => t_name (i := 2) sc_in_order_t.nd) (gok_name 2) (by decide) (fun _ _ _ _ _ => pts_nilT) (fun _ _ _ _ _ => c_call (ok_dict_of_t T) hr1 (a_cons (d_var 2) (a_nil)))))))))
/-! ### is_within@t -/
def b_is_within_t : SS := sRet (eOp oEq (eL (lComp (iKyT 0) (asgN 2) (bOr (bOf (eOp (oInKT true) (ePeek 2) (ePeek 1))) (bOf (eOp oLt (eOp oDxT (ePeek 1) (ePeek 2)) (eOp oDxT (ePeek 0) (ePeek 2))))) (eVar 2) [2])) (eL (lDisp (aNil))))
def m_is_within_t : FM := fnM 2 3 b_is_within_t
theorem sc_is_within_t : FnScope ["one", "other", "key"] ["one", "other"] (defScope s_is_within_t) := ⟨rfl, rfl, rfl, by decide +kernel, rfl, by decide +kernel, by decide +kernel⟩
theorem ok_is_within_t (T : Txt0 K mg C_Rule) : OkF P w K mg base 1 "is_within" ["one", "other"] m_is_within_t := by
  refine okF_mk (nm := ["one", "other", "key"]) T.F_is_within_t sc_is_within_t (fun _ _ _ _ _ _ us hl => match us, hl with | [_, _], _ => rfl) (fun f cdv A outer s H E hr => ?_)
  exact s_one (s_ret (d_eq hr.units (d_peek (d_give (d_lcKT 0 rfl sc_is_within_t.nd (blkOk_by (own := [("key", 2)]) (by first | (show blkC ["one", "other", "key"] (defScope s_is_within_t) _ _ = true; decide +kernel) | kernel_rfl | rfl)) (fun _ _ _ _ _ => t_name (i := 2) sc_is_within_t.nd) (gok_name 2) (by decide) (fun _ _ _ _ _ => pts_oneT (w_pt (w_or (d_testC (d_peek (d_ninKT (u1 hr) (d_look 2) (d_look 1)))) (w_or1 (d_testC (d_peek (d_lt (d_peek (d_dxT (u1 hr) (d_look 1) (d_look 2))) (d_peek (d_dxT (u1 hr) (d_look 0) (d_look 2)))))))))) (fun _ _ _ _ _ => d_var 2)))) (d_peek (d_give (d_lst (a_nil))))))
/-! ### kept@t -/
def b_kept_t : SS := sSeq (sSet 1 (eCall m_in_order_t [] (aCons (eVar 0) (aNil))))
  (sSeq (sOwn 2 (lDisp (aNil)))
  (sSeq (sFor (iSeq (eVar 1)) (asgN 3)
  (sIf (bOf (eOp oEqN (eL (lComp (iSeq (eVar 1)) (asgN 4) (bAnd (bOf (eOp (oEqDD true) (ePeek 4) (ePeek 3))) (bOf (eCall m_is_within_t [] (aCons (eVar 4) (aCons (eVar 3) (aNil)))))) (eVar 4) [4])) (eL (lDisp (aNil)))))
  (sApp 2 (eVar 3))
  (sNil)))
  (sFrz 2 (sRet (eVar 2)))))
def m_kept_t : FM := fnM 1 5 b_kept_t
theorem sc_kept_t : FnScope ["some", "every", "found", "row", "other"] ["some"] (defScope s_kept_t) := ⟨rfl, rfl, rfl, by decide +kernel, rfl, by decide +kernel, by decide +kernel⟩
theorem ok_kept_t (T : Txt0 K mg C_Rule) : OkF P w K mg base 3 "kept" ["some"] m_kept_t := by
  refine okF_mk (nm := ["some", "every", "found", "row", "other"]) T.F_kept_t sc_kept_t (fun _ _ _ _ _ _ us hl => match us, hl with | [_], _ => rfl) (fun f cdv A outer s H E hr => ?_)
  have hr1 : Room 1 _ := hr.mono (by decide)
  have hr2 : Room 2 _ := hr.mono (by decide)
  exact s_cons (s_set (i := 1) sc_kept_t.nd (c_call (ok_in_order_t T) hr2 (a_cons (d_var 0) (a_nil))))
      (s_cons (s_own (i := 2) sc_kept_t.nd (d_lst (a_nil)))
      (s_cons (s_for PassesOwn.never rfl (i_seq (d_var 1)) (t_name (i := 3) sc_kept_t.nd) (gok_name 3)
      (s_one (s_if (d_testC (d_peek (d_eqN (u0 hr) (d_peek (d_give (d_lc rfl sc_kept_t.nd (i_seq (d_var 1)) (blkOk_by (own := [("other", 4)]) (by first | (show blkC ["some", "every", "found", "row", "other"] (defScope s_kept_t) _ _ = true; decide +kernel) | kernel_rfl | rfl)) (fun _ _ _ _ _ => t_name (i := 4) sc_kept_t.nd) (gok_name 4) (by decide) (fun _ _ _ _ _ => pts_oneT (w_pt (w_and (d_testC (d_peek (d_neDD (u65 hr) (d_look 4) (d_look 3)))) (w_and1 (d_test (d_peek (c_call (ok_is_within_t T) hr1 (a_cons (d_var 4) (a_cons (d_var 3) (a_nil)))))))))) (fun _ _ _ _ _ => d_var 4)))) (d_peek (d_give (d_lst (a_nil)))))))
      (s_one (s_app (i := 2) (d_var 3)))
      (s_nil))))
      (s_one (s_frz 2 (s_ret (d_var 2))))))
/-! ### joined -/
def b_joined : SS := sSeq (sOwnT 2 (eBi gDictT (aCons (ePeek 0) (aNil))))
  (sSeq (sFor (iKyT 1) (asgN 3)
  (sPutT 2 (ePeek 3) (eIf (bOf (eInOT 2 (ePeek 3))) (eBi gMax (aCons (eGetOT 2 (ePeek 3)) (aCons (eOp oDxT (ePeek 1) (ePeek 3)) (aNil)))) (eOp oDxT (ePeek 1) (ePeek 3)))))
  (sFrzT 2 (sRet (eVar 2))))
def m_joined : FM := fnM 2 4 b_joined
theorem sc_joined : FnScope ["one", "other", "found", "key"] ["one", "other"] (defScope s_joined) := ⟨rfl, rfl, rfl, by decide +kernel, rfl, by decide +kernel, by decide +kernel⟩
theorem ok_joined (T : Txt0 K mg C_Rule) : OkF P w K mg base 1 "joined" ["one", "other"] m_joined := by
  refine okF_mk (nm := ["one", "other", "found", "key"]) T.F_joined sc_joined (fun _ _ _ _ _ _ us hl => match us, hl with | [_, _], _ => rfl) (fun f cdv A outer s H E hr => ?_)
  exact s_cons (s_ownT (i := 2) sc_joined.nd (d_dictT (u65 hr) T.n_dict (p_cons (d_look 0) (p_nil))))
      (s_cons (s_forKT 1 PassesOwn.never rfl (t_name (i := 3) sc_joined.nd) (gok_name 3)
      (s_one (s_putT (i := 2) (u1 hr) (d_if (d_testC (d_peek (d_inOT 2 (u1 hr) (d_look 3)))) (d_max rfl (T.n_max) (p_cons (d_peek (d_getOT 2 (u1 hr) (d_look 3))) (p_cons (d_peek (d_dxT (u1 hr) (d_look 1) (d_look 3))) (p_nil)))) (d_dxT (u1 hr) (d_look 1) (d_look 3))) (d_look 3))))
      (s_one (s_frzT 2 (s_ret (d_var 2)))))
/-! ### all_joined -/
def b_all_joined : SS := sSeq (sOwn 2 (lDisp (aNil)))
  (sSeq (sFor (iSeq (eVar 0)) (asgN 3)
  (sFor (iSeq (eVar 1)) (asgN 4)
  (sApp 2 (eCall m_joined [] (aCons (eVar 3) (aCons (eVar 4) (aNil)))))))
  (sFrz 2 (sRet (eCall m_kept_t [] (aCons (eVar 2) (aNil))))))
def m_all_joined : FM := fnM 2 5 b_all_joined
theorem sc_all_joined : FnScope ["some", "others", "found", "one", "other"] ["some", "others"] (defScope s_all_joined) := ⟨rfl, rfl, rfl, by decide +kernel, rfl, by decide +kernel, by decide +kernel⟩
theorem ok_all_joined (T : Txt0 K mg C_Rule) : OkF P w K mg base 4 "all_joined" ["some", "others"] m_all_joined := by
  refine okF_mk (nm := ["some", "others", "found", "one", "other"]) T.F_all_joined sc_all_joined (fun _ _ _ _ _ _ us hl => match us, hl with | [_, _], _ => rfl) (fun f cdv A outer s H E hr => ?_)
  have hr1 : Room 1 _ := hr.mono (by decide)
  have hr3 : Room 3 _ := hr.mono (by decide)
  exact s_cons (s_own (i := 2) sc_all_joined.nd (d_lst (a_nil)))
      (s_cons (s_for PassesOwn.never rfl (i_seq (d_var 0)) (t_name (i := 3) sc_all_joined.nd) (gok_name 3)
      (s_one (s_for PassesOwn.never rfl (i_seq (d_var 1)) (t_name (i := 4) sc_all_joined.nd) (gok_name 4)
      (s_one (s_app (i := 2) (c_call (ok_joined T) hr1 (a_cons (d_var 3) (a_cons (d_var 4) (a_nil)))))))))
      (s_one (s_frz 2 (s_ret (c_call (ok_kept_t T) hr3 (a_cons (d_var 2) (a_nil)))))))
/-! ### picked -/
def b_picked : SS := sSeq (sOwn 2 (eOp oCat (eL (lDisp (aCons (eL (lDisp (aCons (eDT (lT0)) (aNil)))) (aNil)))) (eL (lComp (iRg1 (aCons (ePeek 1) (aNil))) (asgN 3) (bYes) (eL (lDisp (aNil))) [3]))))
  (sSeq (sFor (iSeq (eVar 0)) (asgN 4)
  (sFor (iRg3 (aCons (ePeek 1) (aCons (eC (.int 0)) (aCons (eNeg (eC (.int 1))) (aNil))))) (asgN 5)
  (sPut 2 (ePeek 5) (eCall m_kept_t [] (aCons (eOp oAdd (eOp oIx (ePeek 2) (ePeek 5)) (eCall m_all_joined [] (aCons (eOp oIx (ePeek 2) (eOp oSub (ePeek 5) (eC (.int 1)))) (aCons (eVar 4) (aNil))))) (aNil))))))
  (sRet (eOp oIx (ePeek 2) (ePeek 1))))
def m_picked : FM := fnM 2 6 b_picked
theorem sc_picked : FnScope ["lists", "many", "found", "turn", "some", "count"] ["lists", "many"] (defScope s_picked) := ⟨rfl, rfl, rfl, by decide +kernel, rfl, by decide +kernel, by decide +kernel⟩
theorem ok_picked (T : Txt0 K mg C_Rule) : OkF P w K mg base 5 "picked" ["lists", "many"] m_picked := by
  refine okF_mk (nm := ["lists", "many", "found", "turn", "some", "count"]) T.F_picked sc_picked (fun _ _ _ _ _ _ us hl => match us, hl with | [_, _], _ => rfl) (fun f cdv A outer s H E hr => ?_)
  have hr3 : Room 3 _ := hr.mono (by decide)
  have hr4 : Room 4 _ := hr.mono (by decide)
  exact s_cons (s_own (i := 2) sc_picked.nd (d_addL (d_peek (d_give (d_lst (a_cons (d_give (d_lst (a_cons (d_giveDT (d_t0)) (a_nil)))) (a_nil))))) (d_peek (d_give (d_lc rfl sc_picked.nd (i_rg1 (T.n_range) (p_cons (d_look 1) (p_nil))) (blkOk_by (own := [("turn", 3)]) (by first | (show blkC ["lists", "many", "found", "turn", "some", "count"] (defScope s_picked) _ _ = true; decide +kernel) | kernel_rfl | rfl)) (fun _ _ _ _ _ => t_name (i := 3) sc_picked.nd) (gok_name 3) (by decide) (fun _ _ _ _ _ => pts_nilT) (fun _ _ _ _ _ => d_give (d_lst (a_nil))))))))
      (s_cons (s_for PassesOwn.never rfl (i_seq (d_var 0)) (t_name (i := 4) sc_picked.nd) (gok_name 4)
      (s_one (s_for PassesOwn.never rfl (i_rg3 (T.n_range) (p_cons (d_look 1) (p_cons (d_peek (d_int)) (p_cons (d_peek (d_neg (d_peek (d_int)))) (p_nil))))) (t_name (i := 5) sc_picked.nd) (gok_name 5)
      (s_one (s_put (i := 2) (c_call (ok_kept_t T) hr3 (a_cons (d_add (d_peek (d_ix (d_look 2) (d_look 5))) (d_peek (c_call (ok_all_joined T) hr4 (a_cons (d_ix (d_look 2) (d_peek (d_sub (d_look 5) (d_peek (d_int))))) (a_cons (d_var 4) (a_nil)))))) (a_nil))) (d_look 5))))))
      (s_one (s_ret (d_ix (d_look 2) (d_look 1)))))
/-! ### letter_rows (recursion) -/
def b_letter_rows (r_letter_rows : FM) : SS := sSeq (sIf (bOf (eOp (oInT false) (eOp oIx (ePeek 0) (eC (.int 0))) (eTup (aCons (eC (.str "of")) (aCons (eC (.str "now")) (aNil))))))
  (sRet (eL (lDisp (aCons (eDT (lTd (eTup (aCons (eOp oIx (ePeek 0) (eC (.int 0))) (aCons (eOp oIx (ePeek 0) (eC (.int 1))) (aNil)))) (eOp oIx (ePeek 0) (eC (.int 2))))) (aNil)))))
  (sNil))
  (sSeq (sSet 1 (eL (lComp (iSeq (eOp oIx (ePeek 0) (eNeg (eC (.int 1))))) (asgN 2) (bYes) (eCall r_letter_rows [] (aCons (eVar 2) (aNil))) [2])))
  (sSeq (sIf (bOf (eOp oEq (eOp oIx (ePeek 0) (eC (.int 0))) (eC (.str "first"))))
  (sRet (eCall m_picked [] (aCons (eVar 1) (aCons (eC (.int 1)) (aNil)))))
  (sNil))
  (sRet (eCall m_picked [] (aCons (eVar 1) (aCons (eIf (bOf (eOp oEq (eOp oIx (ePeek 0) (eC (.int 0))) (eC (.str "rank")))) (eOp oIx (ePeek 0) (eC (.int 1))) (eBi gLen (aCons (ePeek 1) (aNil)))) (aNil)))))))
def st_letter_rows (p : FM) : FM := (fnM 1 3 (b_letter_rows (p)))
def mm_letter_rows : Nat → FM
  | 0 => (fun _ _ => none)
  | n + 1 => st_letter_rows (mm_letter_rows n)
abbrev mr_letter_rows (n : Nat) : FM := (mm_letter_rows n)
abbrev m_letter_rows : FM := mr_letter_rows 11
theorem sc_letter_rows : FnScope ["term", "lists", "one"] ["term"] (defScope s_letter_rows) := ⟨rfl, rfl, rfl, by decide +kernel, rfl, by decide +kernel, by decide +kernel⟩
theorem okr_letter_rows (T : Txt0 K mg C_Rule) : ∀ n : Nat, OkF P w K mg base (6 + n) "letter_rows" ["term"] (mr_letter_rows n)
  | 0 => okF_0 T.F_letter_rows (fun _ _ _ _ _ _ us hl => match us, hl with | [_], _ => rfl)
  | n + 1 => by
    have ih_letter_rows := okr_letter_rows T n
    refine okF_mk (k := 6 + n) (nm := ["term", "lists", "one"]) T.F_letter_rows sc_letter_rows (fun _ _ _ _ _ _ us hl => match us, hl with | [_], _ => rfl) (fun f cdv A outer s H E hr => ?_)
    have hr5 : Room 5 _ := hr.mono (by omega)
    exact s_cons (s_if (d_testC (d_peek (d_inT (d_peek (d_ix (d_look 0) (d_peek (d_int)))) (d_peek (d_tup (a_cons (d_str) (a_cons (d_str) (a_nil))))))))
            (s_one (s_ret (d_give (d_lst (a_cons (d_giveDT (d_dispT (u0 hr) (d_tup (a_cons (d_ix (d_look 0) (d_peek (d_int))) (a_cons (d_ix (d_look 0) (d_peek (d_int))) (a_nil)))) (d_ix (d_look 0) (d_peek (d_int))))) (a_nil))))))
            (s_nil))
            (s_cons (s_lc (i := 1) rfl sc_letter_rows.nd rfl rfl (sw_true rfl rfl rfl (by decide +kernel)) (i_seq (d_ix (d_look 0) (d_peek (d_neg (d_peek (d_int)))))) (blkOk_by (own := [("one", 2)]) (by first | (show blkC ["term", "lists", "one"] (defScope s_letter_rows) _ _ = true; decide +kernel) | kernel_rfl | rfl)) (fun _ _ _ _ _ => t_name (i := 2) sc_letter_rows.nd) (gok_name 2) (by decide) (fun _ _ _ _ _ => pts_nilT) (fun _ _ _ _ _ => c_call ih_letter_rows hr (a_cons (d_var 2) (a_nil))))
            (s_cons (s_if (d_testC (d_peek (d_eq hr.units (d_peek (d_ix (d_look 0) (d_peek (d_int)))) (d_peek (d_str)))))
            (s_one (s_ret (c_call (ok_picked T) hr5 (a_cons (d_var 1) (a_cons (d_int) (a_nil))))))
            (s_nil))
            (s_one (s_ret (c_call (ok_picked T) hr5 (a_cons (d_var 1) (a_cons (d_if (d_testC (d_peek (d_eq hr.units (d_peek (d_ix (d_look 0) (d_peek (d_int)))) (d_peek (d_str))))) (d_ix (d_look 0) (d_peek (d_int))) (d_len (T.n_len) (p_cons (d_look 1) (p_nil)))) (a_nil))))))))
theorem ok_letter_rows (T : Txt0 K mg C_Rule) : OkF P w K mg base 17 "letter_rows" ["term"] m_letter_rows := (okr_letter_rows T 11)
/-! ### name_rows -/
def b_name_rows : SS := sRet (eL (lComp (iSeq (eCall m_letter_rows [] (aCons (eVar 0) (aNil)))) (asgN 2) (bYes) (eD (dComp (iKyT 2) (asgN 1) (bYes) (eOp oIx (ePeek 1) (eC (.int 1))) (eOp oDxT (ePeek 2) (ePeek 1)) [1])) [2]))
def m_name_rows : FM := fnM 1 3 b_name_rows
theorem sc_name_rows : FnScope ["term", "key", "row"] ["term"] (defScope s_name_rows) := ⟨rfl, rfl, rfl, by decide +kernel, rfl, by decide +kernel, by decide +kernel⟩
theorem ok_name_rows (T : Txt0 K mg C_Rule) : OkF P w K mg base 18 "name_rows" ["term"] m_name_rows := by
  refine okF_mk (nm := ["term", "key", "row"]) T.F_name_rows sc_name_rows (fun _ _ _ _ _ _ us hl => match us, hl with | [_], _ => rfl) (fun f cdv A outer s H E hr => ?_)
  have hr17 : Room 17 _ := hr.mono (by decide)
  exact s_one (s_ret (d_give (d_lc rfl sc_name_rows.nd (i_seq (c_call (ok_letter_rows T) hr17 (a_cons (d_var 0) (a_nil)))) (blkOk_by (own := [("row", 2)]) (by first | (show blkC ["term", "key", "row"] (defScope s_name_rows) _ _ = true; decide +kernel) | kernel_rfl | rfl)) (fun _ _ _ _ _ => t_name (i := 2) sc_name_rows.nd) (gok_name 2) (by decide) (fun _ _ _ _ _ => pts_nilT) (fun _ _ _ _ _ => d_giveD (d_dcKT 2 rfl sc_name_rows.nd (blkOk_by (own := [("key", 1)]) (by first | (show blkC ["term", "key", "row"] (defScope s_name_rows) _ _ = true; decide +kernel) | kernel_rfl | rfl)) (fun _ _ _ _ _ => t_name (i := 1) sc_name_rows.nd) (gok_name 1) (by decide) (fun _ _ _ _ _ => pts_nilT) (fun _ _ _ _ _ => d_ix (d_look 1) (d_peek (d_int))) (fun _ _ _ _ _ => d_dxT (u1 hr) (d_look 2) (d_look 1)))))))
/-! ### canonical -/
def b_canonical : SS := sRet (eCall m_name_rows [] (aCons (eFld "Rule" "form" (ePeek 0)) (aNil)))
def m_canonical : FM := fnM 1 1 b_canonical
theorem sc_canonical : FnScope ["rule"] ["rule"] (defScope s_canonical) := ⟨rfl, rfl, rfl, by decide +kernel, rfl, by decide +kernel, by decide +kernel⟩
theorem ok_canonical (T : Txt0 K mg C_Rule) : OkF P w K mg base 19 "canonical" ["rule"] m_canonical := by
  refine okF_mk (nm := ["rule"]) T.F_canonical sc_canonical (fun _ _ _ _ _ _ us hl => match us, hl with | [_], _ => rfl) (fun f cdv A outer s H E hr => ?_)
  have hr18 : Room 18 _ := hr.mono (by decide)
  exact s_one (s_ret (c_call (ok_name_rows T) hr18 (a_cons (d_fld (d_look 0) T.c_Rule T.k_Rule T.a_Rule_form) (a_nil))))
/-! ### never_behind -/
def b_never_behind : SS := sSeq (sDrop (eCall m_check_flat [] (aCons (eVar 0) (aNil))))
  (sSeq (sDrop (eCall m_check_flat [] (aCons (eVar 1) (aNil))))
  (sRet (eOp oIsN (eCall m_without_row [] (aCons (eCall m_canonical [] (aCons (eVar 0) (aNil))) (aCons (eCall m_canonical [] (aCons (eVar 1) (aNil))) (aNil)))) (eC .non))))
def m_never_behind : FM := fnM 2 2 b_never_behind
theorem sc_never_behind : FnScope ["one", "other"] ["one", "other"] (defScope s_never_behind) := ⟨rfl, rfl, rfl, by decide +kernel, rfl, by decide +kernel, by decide +kernel⟩
theorem okk_never_behind (T : Txt0 K mg C_Rule) : OkFK P w K mg base 20 "never_behind" ["one", "other"] ["other", "one"] List.reverse m_never_behind := by
  refine okFK_mk (nm := ["one", "other"]) pm_rv T.F_never_behind sc_never_behind (fun _ _ _ _ _ _ ws hl => match ws, hl with | [_, _], _ => rfl) (fun f cdv A outer s H E hr => ?_)
  have hr2 : Room 2 _ := hr.mono (by decide)
  have hr15 : Room 15 _ := hr.mono (by decide)
  have hr19 : Room 19 _ := hr.mono (by decide)
  exact s_cons (s_drop (d_peek (c_call (ok_check_flat T) hr15 (a_cons (d_var 0) (a_nil)))))
      (s_cons (s_drop (d_peek (c_call (ok_check_flat T) hr15 (a_cons (d_var 1) (a_nil)))))
      (s_one (s_ret (d_isN (d_peek (c_call (ok_without_row T) hr2 (a_cons (c_call (ok_canonical T) hr19 (a_cons (d_var 0) (a_nil))) (a_cons (c_call (ok_canonical T) hr19 (a_cons (d_var 1) (a_nil))) (a_nil))))) (d_peek (d_non))))))
/-! ### mirrored_term (recursion) -/
def b_mirrored_term (r_mirrored_term : FM) : SS := sSeq (sIf (bOf (eCall m_is_part [] (aCons (eVar 0) (aNil))))
  (sRet (eTup (aCons (eOp oIx (ePeek 0) (eC (.int 0))) (aCons (eOp oIx (ePeek 0) (eC (.int 1))) (aCons (eOp oSub (eC (.int 0)) (eOp oIx (ePeek 0) (eC (.int 2)))) (aNil))))))
  (sNil))
  (sSeq (sSet 1 (eL (lComp (iSeq (eOp oIx (ePeek 0) (eNeg (eC (.int 1))))) (asgN 2) (bYes) (eCall r_mirrored_term [] (aCons (eVar 2) (aNil))) [2])))
  (sSeq (sIf (bOf (eOp oEq (eOp oIx (ePeek 0) (eC (.int 0))) (eC (.str "rank"))))
  (sRet (eTup (aCons (eC (.str "rank")) (aCons (eOp oSub (eOp oAdd (eBi gLen (aCons (ePeek 1) (aNil))) (eC (.int 1))) (eOp oIx (ePeek 0) (eC (.int 1)))) (aCons (eVar 1) (aNil))))))
  (sNil))
  (sRet (eTup (aCons (eIf (bOf (eOp oEq (eOp oIx (ePeek 0) (eC (.int 0))) (eC (.str "first")))) (eC (.str "last")) (eC (.str "first"))) (aCons (eVar 1) (aNil)))))))
def st_mirrored_term (p : FM) : FM := (fnM 1 3 (b_mirrored_term (p)))
def mm_mirrored_term : Nat → FM
  | 0 => (fun _ _ => none)
  | n + 1 => st_mirrored_term (mm_mirrored_term n)
abbrev mr_mirrored_term (n : Nat) : FM := (mm_mirrored_term n)
abbrev m_mirrored_term : FM := mr_mirrored_term 11
theorem sc_mirrored_term : FnScope ["term", "inner", "one"] ["term"] (defScope s_mirrored_term) := ⟨rfl, rfl, rfl, by decide +kernel, rfl, by decide +kernel, by decide +kernel⟩
theorem okr_mirrored_term (T : Txt0 K mg C_Rule) : ∀ n : Nat, OkF P w K mg base (2 + n) "mirrored_term" ["term"] (mr_mirrored_term n)
  | 0 => okF_0 T.F_mirrored_term (fun _ _ _ _ _ _ us hl => match us, hl with | [_], _ => rfl)
  | n + 1 => by
    have ih_mirrored_term := okr_mirrored_term T n
    refine okF_mk (k := 2 + n) (nm := ["term", "inner", "one"]) T.F_mirrored_term sc_mirrored_term (fun _ _ _ _ _ _ us hl => match us, hl with | [_], _ => rfl) (fun f cdv A outer s H E hr => ?_)
    have hr1 : Room 1 _ := hr.mono (by omega)
    exact s_cons (s_if (d_test (d_peek (c_call (ok_is_part T) hr1 (a_cons (d_var 0) (a_nil)))))
            (s_one (s_ret (d_tup (a_cons (d_ix (d_look 0) (d_peek (d_int))) (a_cons (d_ix (d_look 0) (d_peek (d_int))) (a_cons (d_sub (d_peek (d_int)) (d_peek (d_ix (d_look 0) (d_peek (d_int))))) (a_nil)))))))
            (s_nil))
            (s_cons (s_lc (i := 1) rfl sc_mirrored_term.nd rfl rfl (sw_true rfl rfl rfl (by decide +kernel)) (i_seq (d_ix (d_look 0) (d_peek (d_neg (d_peek (d_int)))))) (blkOk_by (own := [("one", 2)]) (by first | (show blkC ["term", "inner", "one"] (defScope s_mirrored_term) _ _ = true; decide +kernel) | kernel_rfl | rfl)) (fun _ _ _ _ _ => t_name (i := 2) sc_mirrored_term.nd) (gok_name 2) (by decide) (fun _ _ _ _ _ => pts_nilT) (fun _ _ _ _ _ => c_call ih_mirrored_term hr (a_cons (d_var 2) (a_nil))))
            (s_cons (s_if (d_testC (d_peek (d_eq hr.units (d_peek (d_ix (d_look 0) (d_peek (d_int)))) (d_peek (d_str)))))
            (s_one (s_ret (d_tup (a_cons (d_str) (a_cons (d_sub (d_peek (d_add (d_peek (d_len (T.n_len) (p_cons (d_look 1) (p_nil)))) (d_peek (d_int)))) (d_peek (d_ix (d_look 0) (d_peek (d_int))))) (a_cons (d_var 1) (a_nil)))))))
            (s_nil))
            (s_one (s_ret (d_tup (a_cons (d_if (d_testC (d_peek (d_eq hr.units (d_peek (d_ix (d_look 0) (d_peek (d_int)))) (d_peek (d_str))))) (d_str) (d_str)) (a_cons (d_var 1) (a_nil))))))))
theorem ok_mirrored_term (T : Txt0 K mg C_Rule) : OkF P w K mg base 13 "mirrored_term" ["term"] m_mirrored_term := (okr_mirrored_term T 11)
/-! ### row_of -/
def b_row_of : SS := sRet (eL (eBi gSortX (aCons (eL (lComp (iKy 0) (asgN 1) (bYes) (eTup (aCons (eVar 1) (aCons (eOp oDx (ePeek 0) (ePeek 1)) (aNil)))) [1])) (aNil))))
def m_row_of : FM := fnM 1 2 b_row_of
theorem sc_row_of : FnScope ["row", "key"] ["row"] (defScope s_row_of) := ⟨rfl, rfl, rfl, by decide +kernel, rfl, by decide +kernel, by decide +kernel⟩
theorem ok_row_of (T : Txt0 K mg C_Rule) : OkF P w K mg base 1 "row_of" ["row"] m_row_of := by
  refine okF_mk (nm := ["row", "key"]) T.F_row_of sc_row_of (fun _ _ _ _ _ _ us hl => match us, hl with | [_], _ => rfl) (fun f cdv A outer s H E hr => ?_)
  exact s_one (s_ret (d_give (d_sortX (u80 hr) T.n_sorted (p_cons (d_peek (d_give (d_lcK 0 rfl sc_row_of.nd (blkOk_by (own := [("key", 1)]) (by first | (show blkC ["row", "key"] (defScope s_row_of) _ _ = true; decide +kernel) | kernel_rfl | rfl)) (fun _ _ _ _ _ => t_name (i := 1) sc_row_of.nd) (gok_name 1) (by decide) (fun _ _ _ _ _ => pts_nilT) (fun _ _ _ _ _ => d_tup (a_cons (d_var 1) (a_cons (d_dx (u1 hr) (d_look 0) (d_look 1)) (a_nil))))))) (p_nil)))))
/-! ### turned -/
def b_turned : SS := sRet (eD (dComp (iKy 0) (asgN 1) (bYes) (eVar 1) (eOp oSub (eC (.int 0)) (eOp oDx (ePeek 0) (ePeek 1))) [1]))
def m_turned : FM := fnM 1 2 b_turned
theorem sc_turned : FnScope ["row", "key"] ["row"] (defScope s_turned) := ⟨rfl, rfl, rfl, by decide +kernel, rfl, by decide +kernel, by decide +kernel⟩
theorem ok_turned (T : Txt0 K mg C_Rule) : OkF P w K mg base 1 "turned" ["row"] m_turned := by
  refine okF_mk (nm := ["row", "key"]) T.F_turned sc_turned (fun _ _ _ _ _ _ us hl => match us, hl with | [_], _ => rfl) (fun f cdv A outer s H E hr => ?_)
  exact s_one (s_ret (d_giveD (d_dcK 0 rfl sc_turned.nd (blkOk_by (own := [("key", 1)]) (by first | (show blkC ["row", "key"] (defScope s_turned) _ _ = true; decide +kernel) | kernel_rfl | rfl)) (fun _ _ _ _ _ => t_name (i := 1) sc_turned.nd) (gok_name 1) (by decide) (fun _ _ _ _ _ => pts_nilT) (fun _ _ _ _ _ => d_var 1) (fun _ _ _ _ _ => d_sub (d_peek (d_int)) (d_peek (d_dx (u1 hr) (d_look 0) (d_look 1)))))))
/-! ### columns -/
def b_columns : SS := sSeq (sDrop (eCall m_check_flat [] (aCons (eVar 0) (aNil))))
  (sRet (eL (eBi gSortX (aCons (eL (lComp (iSeq (eCall m_name_rows [] (aCons (eCall m_mirrored_term [] (aCons (eFld "Rule" "form" (ePeek 0)) (aNil))) (aNil)))) (asgN 1) (bYes) (eCall m_row_of [] (aCons (eCall m_turned [] (aCons (eVar 1) (aNil))) (aNil))) [1])) (aNil)))))
def m_columns : FM := fnM 1 2 b_columns
theorem sc_columns : FnScope ["rule", "row"] ["rule"] (defScope s_columns) := ⟨rfl, rfl, rfl, by decide +kernel, rfl, by decide +kernel, by decide +kernel⟩
theorem okk_columns (T : Txt0 K mg C_Rule) : OkFK P w K mg base 19 "columns" ["rule"] ["rule"] (fun l => l) m_columns := by
  refine okFK_mk (nm := ["rule", "row"]) pm_id T.F_columns sc_columns (fun _ _ _ _ _ _ ws hl => match ws, hl with | [_], _ => rfl) (fun f cdv A outer s H E hr => ?_)
  have hr1 : Room 1 _ := hr.mono (by decide)
  have hr13 : Room 13 _ := hr.mono (by decide)
  have hr15 : Room 15 _ := hr.mono (by decide)
  have hr18 : Room 18 _ := hr.mono (by decide)
  exact s_cons (s_drop (d_peek (c_call (ok_check_flat T) hr15 (a_cons (d_var 0) (a_nil)))))
      (s_one (s_ret (d_give (d_sortX (u80 hr) T.n_sorted (p_cons (d_peek (d_give (d_lc rfl sc_columns.nd (i_seq (c_call (ok_name_rows T) hr18 (a_cons (c_call (ok_mirrored_term T) hr13 (a_cons (d_fld (d_look 0) T.c_Rule T.k_Rule T.a_Rule_form) (a_nil))) (a_nil)))) (blkOk_by (own := [("row", 1)]) (by first | (show blkC ["rule", "row"] (defScope s_columns) _ _ = true; decide +kernel) | kernel_rfl | rfl)) (fun _ _ _ _ _ => t_name (i := 1) sc_columns.nd) (gok_name 1) (by decide) (fun _ _ _ _ _ => pts_nilT) (fun _ _ _ _ _ => c_call (ok_row_of T) hr1 (a_cons (c_call (ok_turned T) hr1 (a_cons (d_var 1) (a_nil))) (a_nil)))))) (p_nil))))))
/-! ### names_in -/
def b_names_in : SS := sSeq (sSet 1 (eL (lDisp (aNil))))
  (sSeq (sFor (iSeq (eVar 0)) (asgN 2)
  (sSet 1 (eOp oAdd (ePeek 1) (eL (lComp (iKy 2) (asgN 3) (bOf (eOp (oInL true) (ePeek 3) (ePeek 1))) (eVar 3) [3])))))
  (sRet (eL (eBi gSortS (aCons (ePeek 1) (aNil))))))
def m_names_in : FM := fnM 1 4 b_names_in
theorem sc_names_in : FnScope ["some", "found", "row", "name"] ["some"] (defScope s_names_in) := ⟨rfl, rfl, rfl, by decide +kernel, rfl, by decide +kernel, by decide +kernel⟩
theorem ok_names_in (T : Txt0 K mg C_Rule) : OkF P w K mg base 1 "names_in" ["some"] m_names_in := by
  refine okF_mk (nm := ["some", "found", "row", "name"]) T.F_names_in sc_names_in (fun _ _ _ _ _ _ us hl => match us, hl with | [_], _ => rfl) (fun f cdv A outer s H E hr => ?_)
  exact s_cons (s_set (i := 1) sc_names_in.nd (d_give (d_lst (a_nil))))
      (s_cons (s_for PassesOwn.never rfl (i_seq (d_var 0)) (t_name (i := 2) sc_names_in.nd) (gok_name 2)
      (s_one (s_set (i := 1) sc_names_in.nd (d_add (d_look 1) (d_peek (d_give (d_lcK 2 rfl sc_names_in.nd (blkOk_by (own := [("name", 3)]) (by first | (show blkC ["some", "found", "row", "name"] (defScope s_names_in) _ _ = true; decide +kernel) | kernel_rfl | rfl)) (fun _ _ _ _ _ => t_name (i := 3) sc_names_in.nd) (gok_name 3) (by decide) (fun _ _ _ _ _ => pts_oneT (d_testC (d_peek (d_ninL (u65 hr) (d_look 3) (d_look 1))))) (fun _ _ _ _ _ => d_var 3))))))))
      (s_one (s_ret (d_give (d_sortS T.n_sorted (p_cons (d_look 1) (p_nil)))))))
/-! ### matters -/
def b_matters : SS := sSeq (sDrop (eCall m_check_flat [] (aCons (eVar 0) (aNil))))
  (sRet (eCall m_names_in [] (aCons (eCall m_canonical [] (aCons (eVar 0) (aNil))) (aNil))))
def m_matters : FM := fnM 1 1 b_matters
theorem sc_matters : FnScope ["rule"] ["rule"] (defScope s_matters) := ⟨rfl, rfl, rfl, by decide +kernel, rfl, by decide +kernel, by decide +kernel⟩
theorem okk_matters (T : Txt0 K mg C_Rule) : OkFK P w K mg base 20 "matters" ["rule"] ["rule"] (fun l => l) m_matters := by
  refine okFK_mk (nm := ["rule"]) pm_id T.F_matters sc_matters (fun _ _ _ _ _ _ ws hl => match ws, hl with | [_], _ => rfl) (fun f cdv A outer s H E hr => ?_)
  have hr1 : Room 1 _ := hr.mono (by decide)
  have hr15 : Room 15 _ := hr.mono (by decide)
  have hr19 : Room 19 _ := hr.mono (by decide)
  exact s_cons (s_drop (d_peek (c_call (ok_check_flat T) hr15 (a_cons (d_var 0) (a_nil)))))
      (s_one (s_ret (c_call (ok_names_in T) hr1 (a_cons (c_call (ok_canonical T) hr19 (a_cons (d_var 0) (a_nil))) (a_nil)))))
/-! ### rows -/
def b_rows : SS := sSeq (sDrop (eCall m_check_flat [] (aCons (eVar 0) (aNil))))
  (sRet (eL (lComp (iSeq (eCall m_canonical [] (aCons (eVar 0) (aNil)))) (asgN 1) (bYes) (eCall m_row_of [] (aCons (eVar 1) (aNil))) [1])))
def m_rows : FM := fnM 1 2 b_rows
theorem sc_rows : FnScope ["rule", "row"] ["rule"] (defScope s_rows) := ⟨rfl, rfl, rfl, by decide +kernel, rfl, by decide +kernel, by decide +kernel⟩
theorem okk_rows (T : Txt0 K mg C_Rule) : OkFK P w K mg base 20 "rows" ["rule"] ["rule"] (fun l => l) m_rows := by
  refine okFK_mk (nm := ["rule", "row"]) pm_id T.F_rows sc_rows (fun _ _ _ _ _ _ ws hl => match ws, hl with | [_], _ => rfl) (fun f cdv A outer s H E hr => ?_)
  have hr1 : Room 1 _ := hr.mono (by decide)
  have hr15 : Room 15 _ := hr.mono (by decide)
  have hr19 : Room 19 _ := hr.mono (by decide)
  exact s_cons (s_drop (d_peek (c_call (ok_check_flat T) hr15 (a_cons (d_var 0) (a_nil)))))
      (s_one (s_ret (d_give (d_lc rfl sc_rows.nd (i_seq (c_call (ok_canonical T) hr19 (a_cons (d_var 0) (a_nil)))) (blkOk_by (own := [("row", 1)]) (by first | (show blkC ["rule", "row"] (defScope s_rows) _ _ = true; decide +kernel) | kernel_rfl | rfl)) (fun _ _ _ _ _ => t_name (i := 1) sc_rows.nd) (gok_name 1) (by decide) (fun _ _ _ _ _ => pts_nilT) (fun _ _ _ _ _ => c_call (ok_row_of T) hr1 (a_cons (d_var 1) (a_nil)))))))
/-! ### Rule.__eq__ -/
def b_Rule___eq__ : SS := sRet (eAnd (eBi (gIsi CS) (aCons (ePeek 1) (aCons (eC (.cls "Rule")) (aNil)))) (eOp oEq (eFld "Rule" "form" (ePeek 0)) (eFld "Rule" "form" (ePeek 1))))
def m_Rule___eq__ : FM := fnM 2 2 b_Rule___eq__
theorem sc_Rule___eq__ : FnScope ["self", "other"] ["self", "other"] (defScope s_Rule___eq__) := ⟨rfl, rfl, rfl, by decide +kernel, rfl, by decide +kernel, by decide +kernel⟩
theorem ok_Rule___eq__ (T : Txt0 K mg C_Rule) : OkM P w K mg base 1 C_Rule "__eq__" ["self", "other"] m_Rule___eq__ := by
  refine okM_mk (nm := ["self", "other"]) T.F_Rule___eq__ sc_Rule___eq__ (fun _ _ _ _ _ _ us hl => match us, hl with | [_, _], _ => rfl) (fun f cdv A outer s H E hr => ?_)
  exact s_one (s_ret (v_and (d_peek (d_isi T.isi (T.n_isinstance) (p_cons (d_look 1) (p_cons (d_peek (d_cls (by rfl) T.c_Rule)) (p_nil))))) (v_one (d_eq hr.units (d_peek (d_fld (d_look 0) T.c_Rule T.k_Rule T.a_Rule_form)) (d_peek (d_fld (d_look 1) T.c_Rule T.k_Rule T.a_Rule_form))))))
theorem eq_Rule {X : Cx} (T : Txt0 X.K X.mg C_Rule) : EqF X 1 C_Rule CS m_Rule___eq__ := ⟨T.isi, T.nf_Rule, T.ne_Rule, T.ob_Rule, _, rfl, ok_Rule___eq__ T⟩
/-! ### is_row -/
def b_is_row : SS := sSeq (sIf (bOr (bNot (bOf (eBi (gIsi CS) (aCons (ePeek 0) (aCons (eC (.ty "list")) (aNil)))))) (bOf (eOp oEq (ePeek 0) (eL (lDisp (aNil))))))
  (sRet (eC (.bl false)))
  (sNil))
  (sSeq (sFor (iSeq (eVar 0)) (asgN 1)
  (sIf (bOr (bNot (bOf (eBi (gIsi CS) (aCons (ePeek 1) (aCons (eC (.ty "tuple")) (aNil)))))) (bOr (bOf (eOp oNe (eBi gLen (aCons (ePeek 1) (aNil))) (eC (.int 2)))) (bOr (bNot (bOf (eCall m_is_name [] (aCons (eOp oIx (ePeek 1) (eC (.int 0))) (aNil))))) (bNot (bOf (eCall m_is_whole [] (aCons (eOp oIx (ePeek 1) (eC (.int 1))) (aNil))))))))
  (sRet (eC (.bl false)))
  (sNil)))
  (sSeq (sSet 2 (eL (lComp (iSeq (eVar 0)) (asgN 1) (bYes) (eOp oIx (ePeek 1) (eC (.int 0))) [1])))
  (sRet (eOp oEq (ePeek 2) (eL (eSN (ePeek 2)))))))
def m_is_row : FM := fnM 1 3 b_is_row
theorem sc_is_row : FnScope ["value", "entry", "names"] ["value"] (defScope s_is_row) := ⟨rfl, rfl, rfl, by decide +kernel, rfl, by decide +kernel, by decide +kernel⟩
theorem ok_is_row (T : Txt0 K mg C_Rule) : OkF P w K mg base 2 "is_row" ["value"] m_is_row := by
  refine okF_mk (nm := ["value", "entry", "names"]) T.F_is_row sc_is_row (fun _ _ _ _ _ _ us hl => match us, hl with | [_], _ => rfl) (fun f cdv A outer s H E hr => ?_)
  have hr1 : Room 1 _ := hr.mono (by decide)
  exact s_cons (s_if (w_pt (w_or (d_not (d_test (d_peek (d_isi T.isi (T.n_isinstance) (p_cons (d_look 0) (p_cons (d_peek (d_ty (by rfl) (T.n_list) (by rfl))) (p_nil))))))) (w_or1 (d_testC (d_peek (d_eq hr.units (d_look 0) (d_peek (d_give (d_lst (a_nil))))))))))
      (s_one (s_ret (d_bl)))
      (s_nil))
      (s_cons (s_for PassesOwn.never rfl (i_seq (d_var 0)) (t_name (i := 1) sc_is_row.nd) (gok_name 1)
      (s_one (s_if (w_pt (w_or (d_not (d_test (d_peek (d_isi T.isi (T.n_isinstance) (p_cons (d_look 1) (p_cons (d_peek (d_ty (by rfl) (T.n_tuple) (by rfl))) (p_nil))))))) (w_or (d_testC (d_peek (d_ne hr.units (d_peek (d_len (T.n_len) (p_cons (d_look 1) (p_nil)))) (d_peek (d_int))))) (w_or (d_not (d_test (d_peek (c_call (ok_is_name T) hr1 (a_cons (d_ix (d_look 1) (d_peek (d_int))) (a_nil)))))) (w_or1 (d_not (d_test (d_peek (c_call (ok_is_whole T) hr1 (a_cons (d_ix (d_look 1) (d_peek (d_int))) (a_nil)))))))))))
      (s_one (s_ret (d_bl)))
      (s_nil))))
      (s_cons (s_lc (i := 2) rfl sc_is_row.nd rfl rfl (sw_true rfl rfl rfl (by decide +kernel)) (i_seq (d_var 0)) (blkOk_by (own := [("entry", 1)]) (by first | (show blkC ["value", "entry", "names"] (defScope s_is_row) _ _ = true; decide +kernel) | kernel_rfl | rfl)) (fun _ _ _ _ _ => t_name (i := 1) sc_is_row.nd) (gok_name 1) (by decide) (fun _ _ _ _ _ => pts_nilT) (fun _ _ _ _ _ => d_ix (d_look 1) (d_peek (d_int))))
      (s_one (s_ret (d_eq hr.units (d_look 2) (d_peek (d_give (d_sn rfl T.n_sorted T.n_set (d_look 2)))))))))
/-! ### check_rows -/
def b_check_rows : SS := sIf (bOr (bNot (bOf (eBi (gIsi CS) (aCons (ePeek 0) (aCons (eC (.ty "list")) (aNil)))))) (bOr (bOf (eOp oEq (ePeek 0) (eL (lDisp (aNil))))) (bOf (eOp oNe (eL (lComp (iSeq (eVar 0)) (asgN 1) (bNot (bOf (eCall m_is_row [] (aCons (eVar 1) (aNil))))) (eVar 1) [1])) (eL (lDisp (aNil)))))))
  (sNever)
  (sNil)
def m_check_rows : FM := fnM 1 2 b_check_rows
theorem sc_check_rows : FnScope ["value", "row"] ["value"] (defScope s_check_rows) := ⟨rfl, rfl, rfl, by decide +kernel, rfl, by decide +kernel, by decide +kernel⟩
theorem ok_check_rows (T : Txt0 K mg C_Rule) : OkF P w K mg base 3 "check_rows" ["value"] m_check_rows := by
  refine okF_mk (nm := ["value", "row"]) T.F_check_rows sc_check_rows (fun _ _ _ _ _ _ us hl => match us, hl with | [_], _ => rfl) (fun f cdv A outer s H E hr => ?_)
  have hr2 : Room 2 _ := hr.mono (by decide)
  exact s_one (s_if (w_pt (w_or (d_not (d_test (d_peek (d_isi T.isi (T.n_isinstance) (p_cons (d_look 0) (p_cons (d_peek (d_ty (by rfl) (T.n_list) (by rfl))) (p_nil))))))) (w_or (d_testC (d_peek (d_eq hr.units (d_look 0) (d_peek (d_give (d_lst (a_nil))))))) (w_or1 (d_testC (d_peek (d_ne hr.units (d_peek (d_give (d_lc rfl sc_check_rows.nd (i_seq (d_var 0)) (blkOk_by (own := [("row", 1)]) (by first | (show blkC ["value", "row"] (defScope s_check_rows) _ _ = true; decide +kernel) | kernel_rfl | rfl)) (fun _ _ _ _ _ => t_name (i := 1) sc_check_rows.nd) (gok_name 1) (by decide) (fun _ _ _ _ _ => pts_oneT (d_not (d_test (d_peek (c_call (ok_is_row T) hr2 (a_cons (d_var 1) (a_nil))))))) (fun _ _ _ _ _ => d_var 1)))) (d_peek (d_give (d_lst (a_nil)))))))))))
      (s_one (s_never))
      (s_nil))
/-! ### dict_of -/
def b_dict_of : SS := sRet (eD (dComp (iSeq (eVar 0)) (asgT [1, 2]) (bYes) (eVar 1) (eVar 2) [1, 2]))
def m_dict_of : FM := fnM 1 3 b_dict_of
theorem sc_dict_of : FnScope ["row", "key", "wait"] ["row"] (defScope s_dict_of) := ⟨rfl, rfl, rfl, by decide +kernel, rfl, by decide +kernel, by decide +kernel⟩
theorem ok_dict_of (T : Txt0 K mg C_Rule) : OkF P w K mg base 1 "dict_of" ["row"] m_dict_of := by
  refine okF_mk (nm := ["row", "key", "wait"]) T.F_dict_of sc_dict_of (fun _ _ _ _ _ _ us hl => match us, hl with | [_], _ => rfl) (fun f cdv A outer s H E hr => ?_)
  exact s_one (s_ret (d_giveD (d_dc rfl sc_dict_of.nd (i_seq (d_var 0)) (blkOk_by (own := [("key", 1), ("wait", 2)]) (by first | (show blkC ["row", "key", "wait"] (defScope s_dict_of) _ _ = true; decide +kernel) | kernel_rfl | rfl)) (fun _ _ _ _ _ => t_tup rfl (g_cons (i := 1) sc_dict_of.nd (g_cons (i := 2) sc_dict_of.nd (g_nil))) (n := 2)) (gok_tup [1, 2] 2 rfl) (by decide) (fun _ _ _ _ _ => pts_nilT) (fun _ _ _ _ _ => d_var 1) (fun _ _ _ _ _ => d_var 2))))
/-! ### in_order -/
def b_in_order : SS := sSeq (sOwn 1 (lDisp (aNil)))
  (sSeq (sFor (iSeq (eL (eBi gSortX (aCons (eL (lComp (iSeq (eVar 0)) (asgN 3) (bYes) (eCall m_row_of [] (aCons (eVar 3) (aNil))) [3])) (aNil))))) (asgN 2)
  (sIf (bOr (bOf (eOp oEq (ePeek 1) (eL (lDisp (aNil))))) (bOf (eOp oNe (eOp oIx (ePeek 1) (eNeg (eC (.int 1)))) (ePeek 2))))
  (sApp 1 (eVar 2))
  (sNil)))
  (sFrz 1 (sRet (eL (lComp (iSeq (eVar 1)) (asgN 2) (bYes) (eCall m_dict_of [] (aCons (eVar 2) (aNil))) [2])))))
def m_in_order : FM := fnM 1 4 b_in_order
theorem sc_in_order : FnScope ["some", "found", "items", "row"] ["some"] (defScope s_in_order) := ⟨rfl, rfl, rfl, by decide +kernel, rfl, by decide +kernel, by decide +kernel⟩
theorem ok_in_order (T : Txt0 K mg C_Rule) : OkF P w K mg base 2 "in_order" ["some"] m_in_order := by
  refine okF_mk (nm := ["some", "found", "items", "row"]) T.F_in_order sc_in_order (fun _ _ _ _ _ _ us hl => match us, hl with | [_], _ => rfl) (fun f cdv A outer s H E hr => ?_)
  have hr1 : Room 1 _ := hr.mono (by decide)
  exact s_cons (s_own (i := 1) sc_in_order.nd (d_lst (a_nil)))
      (s_cons (s_for PassesOwn.never rfl (i_seq (d_give (d_sortX (u80 hr) T.n_sorted (p_cons (d_peek (d_give (d_lc rfl sc_in_order.nd (i_seq (d_var 0)) (blkOk_by (own := [("row", 3)]) (by first | (show blkC ["some", "found", "items", "row"] (defScope s_in_order) _ _ = true; decide +kernel) | kernel_rfl | rfl)) (fun _ _ _ _ _ => t_name (i := 3) sc_in_order.nd) (gok_name 3) (by decide) (fun _ _ _ _ _ => pts_nilT) (fun _ _ _ _ _ => c_call (ok_row_of T) hr1 (a_cons (d_var 3) (a_nil)))))) (p_nil))))) (t_name (i := 2) sc_in_order.nd) (gok_name 2)
      (s_one (s_if (w_pt (w_or (d_testC (d_peek (d_eq hr.units (d_look 1) (d_peek (d_give (d_lst (a_nil))))))) (w_or1 (d_testC (d_peek (d_ne hr.units (d_peek (d_ix (d_look 1) (d_peek (d_neg (d_peek (d_int)))))) (d_look 2)))))))
      (s_one (s_app (i := 1) (d_var 2)))
      (s_nil))))
      (s_one (s_frz 1 (s_ret (d_give (d_lc rfl sc_in_order.nd (i_seq (d_var 1)) (blkOk_by (own := [("items", 2)]) (by first | (show blkC ["some", "found", "items", "row"] (defScope s_in_order) _ _ = true; decide +kernel) | kernel_rfl | rfl)) (fun _ _ _ _ _ => t_name (i := 2) sc_in_order.nd) (gok_name 2) (by decide) (fun _ _ _ _ _ => pts_nilT) (fun _ _ _ _ _ => c_call (ok_dict_of T) hr1 (a_cons (d_var 2) (a_nil)))))))))
/-! ### kept -/
def b_kept : SS := sSeq (sSet 1 (eCall m_in_order [] (aCons (eVar 0) (aNil))))
  (sSeq (sOwn 2 (lDisp (aNil)))
  (sSeq (sFor (iSeq (eVar 1)) (asgN 3)
  (sIf (bOf (eOp oEqN (eL (lComp (iSeq (eVar 1)) (asgN 4) (bAnd (bOf (eOp (oEqDD true) (ePeek 4) (ePeek 3))) (bOf (eCall m_is_within [] (aCons (eVar 4) (aCons (eVar 3) (aNil)))))) (eVar 4) [4])) (eL (lDisp (aNil)))))
  (sApp 2 (eVar 3))
  (sNil)))
  (sFrz 2 (sRet (eVar 2)))))
def m_kept : FM := fnM 1 5 b_kept
theorem sc_kept : FnScope ["some", "every", "found", "row", "other"] ["some"] (defScope s_kept) := ⟨rfl, rfl, rfl, by decide +kernel, rfl, by decide +kernel, by decide +kernel⟩
theorem ok_kept (T : Txt0 K mg C_Rule) : OkF P w K mg base 3 "kept" ["some"] m_kept := by
  refine okF_mk (nm := ["some", "every", "found", "row", "other"]) T.F_kept sc_kept (fun _ _ _ _ _ _ us hl => match us, hl with | [_], _ => rfl) (fun f cdv A outer s H E hr => ?_)
  have hr1 : Room 1 _ := hr.mono (by decide)
  have hr2 : Room 2 _ := hr.mono (by decide)
  exact s_cons (s_set (i := 1) sc_kept.nd (c_call (ok_in_order T) hr2 (a_cons (d_var 0) (a_nil))))
      (s_cons (s_own (i := 2) sc_kept.nd (d_lst (a_nil)))
      (s_cons (s_for PassesOwn.never rfl (i_seq (d_var 1)) (t_name (i := 3) sc_kept.nd) (gok_name 3)
      (s_one (s_if (d_testC (d_peek (d_eqN (u0 hr) (d_peek (d_give (d_lc rfl sc_kept.nd (i_seq (d_var 1)) (blkOk_by (own := [("other", 4)]) (by first | (show blkC ["some", "every", "found", "row", "other"] (defScope s_kept) _ _ = true; decide +kernel) | kernel_rfl | rfl)) (fun _ _ _ _ _ => t_name (i := 4) sc_kept.nd) (gok_name 4) (by decide) (fun _ _ _ _ _ => pts_oneT (w_pt (w_and (d_testC (d_peek (d_neDD (u65 hr) (d_look 4) (d_look 3)))) (w_and1 (d_test (d_peek (c_call (ok_is_within T) hr1 (a_cons (d_var 4) (a_cons (d_var 3) (a_nil)))))))))) (fun _ _ _ _ _ => d_var 4)))) (d_peek (d_give (d_lst (a_nil)))))))
      (s_one (s_app (i := 2) (d_var 3)))
      (s_nil))))
      (s_one (s_frz 2 (s_ret (d_var 2))))))
/-! ### alone_or -/
def b_alone_or : SS := sRet (eIf (bOf (eOp oEq (eBi gLen (aCons (ePeek 1) (aNil))) (eC (.int 1)))) (eOp oIx (ePeek 1) (eC (.int 0))) (eTup (aCons (eVar 0) (aCons (eVar 1) (aNil)))))
def m_alone_or : FM := fnM 2 2 b_alone_or
theorem sc_alone_or : FnScope ["word", "terms"] ["word", "terms"] (defScope s_alone_or) := ⟨rfl, rfl, rfl, by decide +kernel, rfl, by decide +kernel, by decide +kernel⟩
theorem ok_alone_or (T : Txt0 K mg C_Rule) : OkF P w K mg base 1 "alone_or" ["word", "terms"] m_alone_or := by
  refine okF_mk (nm := ["word", "terms"]) T.F_alone_or sc_alone_or (fun _ _ _ _ _ _ us hl => match us, hl with | [_, _], _ => rfl) (fun f cdv A outer s H E hr => ?_)
  exact s_one (s_ret (d_if (d_testC (d_peek (d_eq hr.units (d_peek (d_len (T.n_len) (p_cons (d_look 1) (p_nil)))) (d_peek (d_int))))) (d_ix (d_look 1) (d_peek (d_int))) (d_tup (a_cons (d_var 0) (a_cons (d_var 1) (a_nil))))))
/-! ### term_of_row -/
def b_term_of_row : SS := sRet (eCall m_alone_or [] (aCons (eVar 1) (aCons (eL (lComp (iSeq (eL (eBi gSortD (aCons (ePeek 0) (aNil))))) (asgN 2) (bYes) (eTup (aCons (eC (.str "of")) (aCons (eVar 2) (aCons (eOp oDx (ePeek 0) (ePeek 2)) (aNil))))) [2])) (aNil))))
def m_term_of_row : FM := fnM 2 3 b_term_of_row
theorem sc_term_of_row : FnScope ["row", "word", "name"] ["row", "word"] (defScope s_term_of_row) := ⟨rfl, rfl, rfl, by decide +kernel, rfl, by decide +kernel, by decide +kernel⟩
theorem ok_term_of_row (T : Txt0 K mg C_Rule) : OkF P w K mg base 2 "term_of_row" ["row", "word"] m_term_of_row := by
  refine okF_mk (nm := ["row", "word", "name"]) T.F_term_of_row sc_term_of_row (fun _ _ _ _ _ _ us hl => match us, hl with | [_, _], _ => rfl) (fun f cdv A outer s H E hr => ?_)
  have hr1 : Room 1 _ := hr.mono (by decide)
  exact s_one (s_ret (c_call (ok_alone_or T) hr1 (a_cons (d_var 1) (a_cons (d_give (d_lc rfl sc_term_of_row.nd (i_seq (d_give (d_sortD rfl T.n_sorted (p_cons (d_look 0) (p_nil))))) (blkOk_by (own := [("name", 2)]) (by first | (show blkC ["row", "word", "name"] (defScope s_term_of_row) _ _ = true; decide +kernel) | kernel_rfl | rfl)) (fun _ _ _ _ _ => t_name (i := 2) sc_term_of_row.nd) (gok_name 2) (by decide) (fun _ _ _ _ _ => pts_nilT) (fun _ _ _ _ _ => d_tup (a_cons (d_str) (a_cons (d_var 2) (a_cons (d_dx (u1 hr) (d_look 0) (d_look 2)) (a_nil))))))) (a_nil)))))
/-! ### term_of_columns -/
def b_term_of_columns : SS := sSeq (sSet 1 (eCall m_in_order [] (aCons (eL (lComp (iSeq (eCall m_kept [] (aCons (eL (lComp (iSeq (eVar 0)) (asgN 2) (bYes) (eCall m_turned [] (aCons (eVar 2) (aNil))) [2])) (aNil)))) (asgN 2) (bYes) (eCall m_turned [] (aCons (eVar 2) (aNil))) [2])) (aNil))))
  (sRet (eCall m_alone_or [] (aCons (eC (.str "last")) (aCons (eL (lComp (iSeq (eVar 1)) (asgN 2) (bYes) (eCall m_term_of_row [] (aCons (eVar 2) (aCons (eC (.str "first")) (aNil)))) [2])) (aNil)))))
def m_term_of_columns : FM := fnM 1 3 b_term_of_columns
theorem sc_term_of_columns : FnScope ["some", "columns", "row"] ["some"] (defScope s_term_of_columns) := ⟨rfl, rfl, rfl, by decide +kernel, rfl, by decide +kernel, by decide +kernel⟩
theorem ok_term_of_columns (T : Txt0 K mg C_Rule) : OkF P w K mg base 4 "term_of_columns" ["some"] m_term_of_columns := by
  refine okF_mk (nm := ["some", "columns", "row"]) T.F_term_of_columns sc_term_of_columns (fun _ _ _ _ _ _ us hl => match us, hl with | [_], _ => rfl) (fun f cdv A outer s H E hr => ?_)
  have hr1 : Room 1 _ := hr.mono (by decide)
  have hr2 : Room 2 _ := hr.mono (by decide)
  have hr3 : Room 3 _ := hr.mono (by decide)
  exact s_cons (s_set (i := 1) sc_term_of_columns.nd (c_call (ok_in_order T) hr2 (a_cons (d_give (d_lc rfl sc_term_of_columns.nd (i_seq (c_call (ok_kept T) hr3 (a_cons (d_give (d_lc rfl sc_term_of_columns.nd (i_seq (d_var 0)) (blkOk_by (own := [("row", 2)]) (by first | (show blkC ["some", "columns", "row"] (defScope s_term_of_columns) _ _ = true; decide +kernel) | kernel_rfl | rfl)) (fun _ _ _ _ _ => t_name (i := 2) sc_term_of_columns.nd) (gok_name 2) (by decide) (fun _ _ _ _ _ => pts_nilT) (fun _ _ _ _ _ => c_call (ok_turned T) hr1 (a_cons (d_var 2) (a_nil))))) (a_nil)))) (blkOk_by (own := [("row", 2)]) (by first | (show blkC ["some", "columns", "row"] (defScope s_term_of_columns) _ _ = true; decide +kernel) | kernel_rfl | rfl)) (fun _ _ _ _ _ => t_name (i := 2) sc_term_of_columns.nd) (gok_name 2) (by decide) (fun _ _ _ _ _ => pts_nilT) (fun _ _ _ _ _ => c_call (ok_turned T) hr1 (a_cons (d_var 2) (a_nil))))) (a_nil))))
      (s_one (s_ret (c_call (ok_alone_or T) hr1 (a_cons (d_str) (a_cons (d_give (d_lc rfl sc_term_of_columns.nd (i_seq (d_var 1)) (blkOk_by (own := [("row", 2)]) (by first | (show blkC ["some", "columns", "row"] (defScope s_term_of_columns) _ _ = true; decide +kernel) | kernel_rfl | rfl)) (fun _ _ _ _ _ => t_name (i := 2) sc_term_of_columns.nd) (gok_name 2) (by decide) (fun _ _ _ _ _ => pts_nilT) (fun _ _ _ _ _ => c_call (ok_term_of_row T) hr2 (a_cons (d_var 2) (a_cons (d_str) (a_nil)))))) (a_nil))))))
/-! ### of_columns -/
def b_of_columns : SS := sSeq (sDrop (eCall m_check_rows [] (aCons (eVar 0) (aNil))))
  (sRet (eMake "Rule" m_Rule___init__ [] (aCons (eCall m_term_of_columns [] (aCons (eL (lComp (iSeq (eVar 0)) (asgN 1) (bYes) (eCall m_dict_of [] (aCons (eVar 1) (aNil))) [1])) (aNil))) (aNil))))
def m_of_columns : FM := fnM 1 2 b_of_columns
theorem sc_of_columns : FnScope ["some", "row"] ["some"] (defScope s_of_columns) := ⟨rfl, rfl, rfl, by decide +kernel, rfl, by decide +kernel, by decide +kernel⟩
theorem okk_of_columns (T : Txt0 K mg C_Rule) : OkFK P w K mg base 27 "of_columns" ["some"] ["some"] (fun l => l) m_of_columns := by
  refine okFK_mk (nm := ["some", "row"]) pm_id T.F_of_columns sc_of_columns (fun _ _ _ _ _ _ ws hl => match ws, hl with | [_], _ => rfl) (fun f cdv A outer s H E hr => ?_)
  have hr1 : Room 1 _ := hr.mono (by decide)
  have hr3 : Room 3 _ := hr.mono (by decide)
  have hr4 : Room 4 _ := hr.mono (by decide)
  have hr26 : Room 26 _ := hr.mono (by decide)
  exact s_cons (s_drop (d_peek (c_call (ok_check_rows T) hr3 (a_cons (d_var 0) (a_nil)))))
      (s_one (s_ret (c_make (ok_Rule___init__ T) T.c_Rule hr26 (a_cons (c_call (ok_term_of_columns T) hr4 (a_cons (d_give (d_lc rfl sc_of_columns.nd (i_seq (d_var 0)) (blkOk_by (own := [("row", 1)]) (by first | (show blkC ["some", "row"] (defScope s_of_columns) _ _ = true; decide +kernel) | kernel_rfl | rfl)) (fun _ _ _ _ _ => t_name (i := 1) sc_of_columns.nd) (gok_name 1) (by decide) (fun _ _ _ _ _ => pts_nilT) (fun _ _ _ _ _ => c_call (ok_dict_of T) hr1 (a_cons (d_var 1) (a_nil))))) (a_nil))) (a_nil)))))
/-! ### term_of_rows -/
def b_term_of_rows : SS := sRet (eCall m_alone_or [] (aCons (eC (.str "first")) (aCons (eL (lComp (iSeq (eCall m_kept [] (aCons (eVar 0) (aNil)))) (asgN 1) (bYes) (eCall m_term_of_row [] (aCons (eVar 1) (aCons (eC (.str "last")) (aNil)))) [1])) (aNil))))
def m_term_of_rows : FM := fnM 1 2 b_term_of_rows
theorem sc_term_of_rows : FnScope ["some", "row"] ["some"] (defScope s_term_of_rows) := ⟨rfl, rfl, rfl, by decide +kernel, rfl, by decide +kernel, by decide +kernel⟩
theorem ok_term_of_rows (T : Txt0 K mg C_Rule) : OkF P w K mg base 4 "term_of_rows" ["some"] m_term_of_rows := by
  refine okF_mk (nm := ["some", "row"]) T.F_term_of_rows sc_term_of_rows (fun _ _ _ _ _ _ us hl => match us, hl with | [_], _ => rfl) (fun f cdv A outer s H E hr => ?_)
  have hr1 : Room 1 _ := hr.mono (by decide)
  have hr2 : Room 2 _ := hr.mono (by decide)
  have hr3 : Room 3 _ := hr.mono (by decide)
  exact s_one (s_ret (c_call (ok_alone_or T) hr1 (a_cons (d_str) (a_cons (d_give (d_lc rfl sc_term_of_rows.nd (i_seq (c_call (ok_kept T) hr3 (a_cons (d_var 0) (a_nil)))) (blkOk_by (own := [("row", 1)]) (by first | (show blkC ["some", "row"] (defScope s_term_of_rows) _ _ = true; decide +kernel) | kernel_rfl | rfl)) (fun _ _ _ _ _ => t_name (i := 1) sc_term_of_rows.nd) (gok_name 1) (by decide) (fun _ _ _ _ _ => pts_nilT) (fun _ _ _ _ _ => c_call (ok_term_of_row T) hr2 (a_cons (d_var 1) (a_cons (d_str) (a_nil)))))) (a_nil)))))
/-! ### of_rows -/
def b_of_rows : SS := sSeq (sDrop (eCall m_check_rows [] (aCons (eVar 0) (aNil))))
  (sRet (eMake "Rule" m_Rule___init__ [] (aCons (eCall m_term_of_rows [] (aCons (eL (lComp (iSeq (eVar 0)) (asgN 1) (bYes) (eCall m_dict_of [] (aCons (eVar 1) (aNil))) [1])) (aNil))) (aNil))))
def m_of_rows : FM := fnM 1 2 b_of_rows
theorem sc_of_rows : FnScope ["some", "row"] ["some"] (defScope s_of_rows) := ⟨rfl, rfl, rfl, by decide +kernel, rfl, by decide +kernel, by decide +kernel⟩
theorem okk_of_rows (T : Txt0 K mg C_Rule) : OkFK P w K mg base 27 "of_rows" ["some"] ["some"] (fun l => l) m_of_rows := by
  refine okFK_mk (nm := ["some", "row"]) pm_id T.F_of_rows sc_of_rows (fun _ _ _ _ _ _ ws hl => match ws, hl with | [_], _ => rfl) (fun f cdv A outer s H E hr => ?_)
  have hr1 : Room 1 _ := hr.mono (by decide)
  have hr3 : Room 3 _ := hr.mono (by decide)
  have hr4 : Room 4 _ := hr.mono (by decide)
  have hr26 : Room 26 _ := hr.mono (by decide)
  exact s_cons (s_drop (d_peek (c_call (ok_check_rows T) hr3 (a_cons (d_var 0) (a_nil)))))
      (s_one (s_ret (c_make (ok_Rule___init__ T) T.c_Rule hr26 (a_cons (c_call (ok_term_of_rows T) hr4 (a_cons (d_give (d_lc rfl sc_of_rows.nd (i_seq (d_var 0)) (blkOk_by (own := [("row", 1)]) (by first | (show blkC ["some", "row"] (defScope s_of_rows) _ _ = true; decide +kernel) | kernel_rfl | rfl)) (fun _ _ _ _ _ => t_name (i := 1) sc_of_rows.nd) (gok_name 1) (by decide) (fun _ _ _ _ _ => pts_nilT) (fun _ _ _ _ _ => c_call (ok_dict_of T) hr1 (a_cons (d_var 1) (a_nil))))) (a_nil))) (a_nil)))))
/-! ### alike -/
def b_alike : SS := sSeq (sDrop (eCall m_check_flat [] (aCons (eVar 0) (aNil))))
  (sSeq (sDrop (eCall m_check_flat [] (aCons (eVar 1) (aNil))))
  (sRet (eOp oEqLD (eCall m_canonical [] (aCons (eVar 0) (aNil))) (eCall m_canonical [] (aCons (eVar 1) (aNil))))))
def m_alike : FM := fnM 2 2 b_alike
theorem sc_alike : FnScope ["one", "other"] ["one", "other"] (defScope s_alike) := ⟨rfl, rfl, rfl, by decide +kernel, rfl, by decide +kernel, by decide +kernel⟩
theorem okk_alike (T : Txt0 K mg C_Rule) : OkFK P w K mg base 20 "alike" ["one", "other"] ["other", "one"] List.reverse m_alike := by
  refine okFK_mk (nm := ["one", "other"]) pm_rv T.F_alike sc_alike (fun _ _ _ _ _ _ ws hl => match ws, hl with | [_, _], _ => rfl) (fun f cdv A outer s H E hr => ?_)
  have hr15 : Room 15 _ := hr.mono (by decide)
  have hr19 : Room 19 _ := hr.mono (by decide)
  exact s_cons (s_drop (d_peek (c_call (ok_check_flat T) hr15 (a_cons (d_var 0) (a_nil)))))
      (s_cons (s_drop (d_peek (c_call (ok_check_flat T) hr15 (a_cons (d_var 1) (a_nil)))))
      (s_one (s_ret (d_eqLD (u65 hr) (d_peek (c_call (ok_canonical T) hr19 (a_cons (d_var 0) (a_nil)))) (d_peek (c_call (ok_canonical T) hr19 (a_cons (d_var 1) (a_nil))))))))
/-! ### hours_for -/
def b_hours_for : SS := sRet (eD (dComp (iSeq (eVar 1)) (asgN 3) (bYes) (eVar 3) (eIf (bOf (eOp (oInK false) (ePeek 3) (ePeek 0))) (eOp oSub (eC (.int 0)) (eOp oDx (ePeek 0) (ePeek 3))) (eVar 2)) [3]))
def m_hours_for : FM := fnM 3 4 b_hours_for
theorem sc_hours_for : FnScope ["row", "names", "far", "name"] ["row", "names", "far"] (defScope s_hours_for) := ⟨rfl, rfl, rfl, by decide +kernel, rfl, by decide +kernel, by decide +kernel⟩
theorem ok_hours_for (T : Txt0 K mg C_Rule) : OkF P w K mg base 1 "hours_for" ["row", "names", "far"] m_hours_for := by
  refine okF_mk (nm := ["row", "names", "far", "name"]) T.F_hours_for sc_hours_for (fun _ _ _ _ _ _ us hl => match us, hl with | [_, _, _], _ => rfl) (fun f cdv A outer s H E hr => ?_)
  exact s_one (s_ret (d_giveD (d_dc rfl sc_hours_for.nd (i_seq (d_var 1)) (blkOk_by (own := [("name", 3)]) (by first | (show blkC ["row", "names", "far", "name"] (defScope s_hours_for) _ _ = true; decide +kernel) | kernel_rfl | rfl)) (fun _ _ _ _ _ => t_name (i := 3) sc_hours_for.nd) (gok_name 3) (by decide) (fun _ _ _ _ _ => pts_nilT) (fun _ _ _ _ _ => d_var 3) (fun _ _ _ _ _ => d_if (d_testC (d_peek (d_inK (u1 hr) (d_look 3) (d_look 0)))) (d_sub (d_peek (d_int)) (d_peek (d_dx (u1 hr) (d_look 0) (d_look 3)))) (d_var 2)))))
/-! ### far_hour -/
def b_far_hour : SS := sSeq (sSet 1 (eL (lDisp (aCons (eC (.int 0)) (aNil)))))
  (sSeq (sFor (iSeq (eVar 0)) (asgN 2)
  (sFor (iSeq (eVar 2)) (asgN 3)
  (sSet 1 (eOp oAdd (ePeek 1) (eL (eVals (ePeek 3)))))))
  (sRet (eOp oSub (eC (.int 1)) (eBi gMin (aCons (ePeek 1) (aNil))))))
def m_far_hour : FM := fnM 1 4 b_far_hour
theorem sc_far_hour : FnScope ["lists", "waits", "some", "row"] ["lists"] (defScope s_far_hour) := ⟨rfl, rfl, rfl, by decide +kernel, rfl, by decide +kernel, by decide +kernel⟩
theorem ok_far_hour (T : Txt0 K mg C_Rule) : OkF P w K mg base 1 "far_hour" ["lists"] m_far_hour := by
  refine okF_mk (nm := ["lists", "waits", "some", "row"]) T.F_far_hour sc_far_hour (fun _ _ _ _ _ _ us hl => match us, hl with | [_], _ => rfl) (fun f cdv A outer s H E hr => ?_)
  exact s_cons (s_set (i := 1) sc_far_hour.nd (d_give (d_lst (a_cons (d_int) (a_nil)))))
      (s_cons (s_for PassesOwn.never rfl (i_seq (d_var 0)) (t_name (i := 2) sc_far_hour.nd) (gok_name 2)
      (s_one (s_for PassesOwn.never rfl (i_seq (d_var 2)) (t_name (i := 3) sc_far_hour.nd) (gok_name 3)
      (s_one (s_set (i := 1) sc_far_hour.nd (d_add (d_look 1) (d_peek (d_give (d_vals rfl (d_look 3) T.n_list)))))))))
      (s_one (s_ret (d_sub (d_peek (d_int)) (d_peek (d_min rfl (T.n_min) (p_cons (d_look 1) (p_nil))))))))
/-! ### standing -/
def b_standing : SS := sRet (eL (eSN (eOp oAdd (eCall m_names_by [] (aCons (eFld "Rule" "form" (ePeek 0)) (aCons (eC (.str "of")) (aNil)))) (eCall m_names_by [] (aCons (eFld "Rule" "form" (ePeek 1)) (aCons (eC (.str "of")) (aNil)))))))
def m_standing : FM := fnM 2 2 b_standing
theorem sc_standing : FnScope ["one", "other"] ["one", "other"] (defScope s_standing) := ⟨rfl, rfl, rfl, by decide +kernel, rfl, by decide +kernel, by decide +kernel⟩
theorem ok_standing (T : Txt0 K mg C_Rule) : OkF P w K mg base 15 "standing" ["one", "other"] m_standing := by
  refine okF_mk (nm := ["one", "other"]) T.F_standing sc_standing (fun _ _ _ _ _ _ us hl => match us, hl with | [_, _], _ => rfl) (fun f cdv A outer s H E hr => ?_)
  have hr14 : Room 14 _ := hr.mono (by decide)
  exact s_one (s_ret (d_give (d_sn rfl T.n_sorted T.n_set (d_peek (d_add (d_peek (c_call (ok_names_by T) hr14 (a_cons (d_fld (d_look 0) T.c_Rule T.k_Rule T.a_Rule_form) (a_cons (d_str) (a_nil))))) (d_peek (c_call (ok_names_by T) hr14 (a_cons (d_fld (d_look 1) T.c_Rule T.k_Rule T.a_Rule_form) (a_cons (d_str) (a_nil))))))))))
/-! ### behind_hours -/
def b_behind_hours : SS := sSeq (sPar 2 3 (.val (eCall m_canonical [] (aCons (eVar 0) (aNil)))) (.val (eCall m_canonical [] (aCons (eVar 1) (aNil)))))
  (sSeq (sSet 4 (eCall m_without_row [] (aCons (eVar 2) (aCons (eVar 3) (aNil)))))
  (sSeq (sIf (bOf (eOp oIsN (ePeek 4) (eC .non)))
  (sRet (eC .non))
  (sNil))
  (sRet (eCall m_hours_for [] (aCons (eVar 4) (aCons (eCall m_standing [] (aCons (eVar 0) (aCons (eVar 1) (aNil)))) (aCons (eCall m_far_hour [] (aCons (eL (lDisp (aCons (eVar 2) (aCons (eVar 3) (aNil))))) (aNil))) (aNil))))))))
def m_behind_hours : FM := fnM 2 5 b_behind_hours
theorem sc_behind_hours : FnScope ["one", "other", "mine", "its", "row"] ["one", "other"] (defScope s_behind_hours) := ⟨rfl, rfl, rfl, by decide +kernel, rfl, by decide +kernel, by decide +kernel⟩
theorem ok_behind_hours (T : Txt0 K mg C_Rule) : OkF P w K mg base 20 "behind_hours" ["one", "other"] m_behind_hours := by
  refine okF_mk (nm := ["one", "other", "mine", "its", "row"]) T.F_behind_hours sc_behind_hours (fun _ _ _ _ _ _ us hl => match us, hl with | [_, _], _ => rfl) (fun f cdv A outer s H E hr => ?_)
  have hr1 : Room 1 _ := hr.mono (by decide)
  have hr2 : Room 2 _ := hr.mono (by decide)
  have hr15 : Room 15 _ := hr.mono (by decide)
  have hr19 : Room 19 _ := hr.mono (by decide)
  exact s_cons (s_par (i := 2) (j := 3) (ka := .val (eCall m_canonical [] (aCons (eVar 0) (aNil)))) (kb := .val (eCall m_canonical [] (aCons (eVar 1) (aNil)))) sc_behind_hours.nd (k_val (c_call (ok_canonical T) hr19 (a_cons (d_var 0) (a_nil)))) (k_val (c_call (ok_canonical T) hr19 (a_cons (d_var 1) (a_nil)))))
      (s_cons (s_set (i := 4) sc_behind_hours.nd (c_call (ok_without_row T) hr2 (a_cons (d_var 2) (a_cons (d_var 3) (a_nil)))))
      (s_cons (s_if (d_testC (d_peek (d_isN (d_look 4) (d_peek (d_non)))))
      (s_one (s_ret (d_non)))
      (s_nil))
      (s_one (s_ret (c_call (ok_hours_for T) hr1 (a_cons (d_var 4) (a_cons (c_call (ok_standing T) hr15 (a_cons (d_var 0) (a_cons (d_var 1) (a_nil)))) (a_cons (c_call (ok_far_hour T) hr1 (a_cons (d_give (d_lst (a_cons (d_var 2) (a_cons (d_var 3) (a_nil))))) (a_nil))) (a_nil)))))))))
/-! ### parting -/
def b_parting : SS := sSeq (sDrop (eCall m_check_flat [] (aCons (eVar 0) (aNil))))
  (sSeq (sDrop (eCall m_check_flat [] (aCons (eVar 1) (aNil))))
  (sSeq (sSet 2 (eCall m_behind_hours [] (aCons (eVar 0) (aCons (eVar 1) (aNil)))))
  (sRet (eIf (bOf (eOp oIsN (ePeek 2) (eC .non))) (eCall m_behind_hours [] (aCons (eVar 1) (aCons (eVar 0) (aNil)))) (eVar 2)))))
def m_parting : FM := fnM 2 3 b_parting
theorem sc_parting : FnScope ["one", "other", "found"] ["one", "other"] (defScope s_parting) := ⟨rfl, rfl, rfl, by decide +kernel, rfl, by decide +kernel, by decide +kernel⟩
theorem okk_parting (T : Txt0 K mg C_Rule) : OkFK P w K mg base 21 "parting" ["one", "other"] ["other", "one"] List.reverse m_parting := by
  refine okFK_mk (nm := ["one", "other", "found"]) pm_rv T.F_parting sc_parting (fun _ _ _ _ _ _ ws hl => match ws, hl with | [_, _], _ => rfl) (fun f cdv A outer s H E hr => ?_)
  have hr15 : Room 15 _ := hr.mono (by decide)
  have hr20 : Room 20 _ := hr.mono (by decide)
  exact s_cons (s_drop (d_peek (c_call (ok_check_flat T) hr15 (a_cons (d_var 0) (a_nil)))))
      (s_cons (s_drop (d_peek (c_call (ok_check_flat T) hr15 (a_cons (d_var 1) (a_nil)))))
      (s_cons (s_set (i := 2) sc_parting.nd (c_call (ok_behind_hours T) hr20 (a_cons (d_var 0) (a_cons (d_var 1) (a_nil)))))
      (s_one (s_ret (d_if (d_testC (d_peek (d_isN (d_look 2) (d_peek (d_non))))) (c_call (ok_behind_hours T) hr20 (a_cons (d_var 1) (a_cons (d_var 0) (a_nil)))) (d_var 2))))))
/-! ### row_hour -/
def b_row_hour : SS := sRet (eBi gMax (aCons (eL (lComp (iKy 0) (asgN 2) (bYes) (eOp oAdd (eOp oDx (ePeek 1) (ePeek 2)) (eOp oDx (ePeek 0) (ePeek 2))) [2])) (aNil)))
def m_row_hour : FM := fnM 2 3 b_row_hour
theorem sc_row_hour : FnScope ["row", "hours", "key"] ["row", "hours"] (defScope s_row_hour) := ⟨rfl, rfl, rfl, by decide +kernel, rfl, by decide +kernel, by decide +kernel⟩
theorem ok_row_hour (T : Txt0 K mg C_Rule) : OkF P w K mg base 1 "row_hour" ["row", "hours"] m_row_hour := by
  refine okF_mk (nm := ["row", "hours", "key"]) T.F_row_hour sc_row_hour (fun _ _ _ _ _ _ us hl => match us, hl with | [_, _], _ => rfl) (fun f cdv A outer s H E hr => ?_)
  exact s_one (s_ret (d_max rfl (T.n_max) (p_cons (d_peek (d_give (d_lcK 0 rfl sc_row_hour.nd (blkOk_by (own := [("key", 2)]) (by first | (show blkC ["row", "hours", "key"] (defScope s_row_hour) _ _ = true; decide +kernel) | kernel_rfl | rfl)) (fun _ _ _ _ _ => t_name (i := 2) sc_row_hour.nd) (gok_name 2) (by decide) (fun _ _ _ _ _ => pts_nilT) (fun _ _ _ _ _ => d_add (d_peek (d_dx (u1 hr) (d_look 1) (d_look 2))) (d_peek (d_dx (u1 hr) (d_look 0) (d_look 2))))))) (p_nil))))
/-! ### least_hour -/
def b_least_hour : SS := sRet (eBi gMin (aCons (eL (lComp (iSeq (eVar 0)) (asgN 2) (bYes) (eCall m_row_hour [] (aCons (eVar 2) (aCons (eVar 1) (aNil)))) [2])) (aNil)))
def m_least_hour : FM := fnM 2 3 b_least_hour
theorem sc_least_hour : FnScope ["some", "hours", "row"] ["some", "hours"] (defScope s_least_hour) := ⟨rfl, rfl, rfl, by decide +kernel, rfl, by decide +kernel, by decide +kernel⟩
theorem ok_least_hour (T : Txt0 K mg C_Rule) : OkF P w K mg base 2 "least_hour" ["some", "hours"] m_least_hour := by
  refine okF_mk (nm := ["some", "hours", "row"]) T.F_least_hour sc_least_hour (fun _ _ _ _ _ _ us hl => match us, hl with | [_, _], _ => rfl) (fun f cdv A outer s H E hr => ?_)
  have hr1 : Room 1 _ := hr.mono (by decide)
  exact s_one (s_ret (d_min rfl (T.n_min) (p_cons (d_peek (d_give (d_lc rfl sc_least_hour.nd (i_seq (d_var 0)) (blkOk_by (own := [("row", 2)]) (by first | (show blkC ["some", "hours", "row"] (defScope s_least_hour) _ _ = true; decide +kernel) | kernel_rfl | rfl)) (fun _ _ _ _ _ => t_name (i := 2) sc_least_hour.nd) (gok_name 2) (by decide) (fun _ _ _ _ _ => pts_nilT) (fun _ _ _ _ _ => c_call (ok_row_hour T) hr1 (a_cons (d_var 2) (a_cons (d_var 1) (a_nil))))))) (p_nil))))
/-! ### less_told -/
def b_less_told : SS := sRet (eOp oSub (eCall m_least_hour [] (aCons (eCall m_canonical [] (aCons (eVar 0) (aNil))) (aCons (eVar 2) (aNil)))) (eCall m_least_hour [] (aCons (eCall m_canonical [] (aCons (eVar 1) (aNil))) (aCons (eVar 2) (aNil)))))
def m_less_told : FM := fnM 3 3 b_less_told
theorem sc_less_told : FnScope ["one", "other", "hours"] ["one", "other", "hours"] (defScope s_less_told) := ⟨rfl, rfl, rfl, by decide +kernel, rfl, by decide +kernel, by decide +kernel⟩
theorem ok_less_told (T : Txt0 K mg C_Rule) : OkF P w K mg base 20 "less_told" ["one", "other", "hours"] m_less_told := by
  refine okF_mk (nm := ["one", "other", "hours"]) T.F_less_told sc_less_told (fun _ _ _ _ _ _ us hl => match us, hl with | [_, _, _], _ => rfl) (fun f cdv A outer s H E hr => ?_)
  have hr2 : Room 2 _ := hr.mono (by decide)
  have hr19 : Room 19 _ := hr.mono (by decide)
  exact s_one (s_ret (d_sub (d_peek (c_call (ok_least_hour T) hr2 (a_cons (c_call (ok_canonical T) hr19 (a_cons (d_var 0) (a_nil))) (a_cons (d_var 2) (a_nil))))) (d_peek (c_call (ok_least_hour T) hr2 (a_cons (c_call (ok_canonical T) hr19 (a_cons (d_var 1) (a_nil))) (a_cons (d_var 2) (a_nil)))))))
/-! ### is_hours -/
def b_is_hours : SS := sSeq (sIf (bNot (bOf (eBi (gIsi CS) (aCons (ePeek 0) (aCons (eC (.ty "dict")) (aNil))))))
  (sRet (eC (.bl false)))
  (sNil))
  (sRet (eOp oEq (eL (lComp (iKy 0) (asgN 1) (bOr (bNot (bOf (eCall m_is_name [] (aCons (eVar 1) (aNil))))) (bNot (bOf (eCall m_is_whole [] (aCons (eOp oDx (ePeek 0) (ePeek 1)) (aNil)))))) (eVar 1) [1])) (eL (lDisp (aNil)))))
def m_is_hours : FM := fnM 1 2 b_is_hours
theorem sc_is_hours : FnScope ["value", "key"] ["value"] (defScope s_is_hours) := ⟨rfl, rfl, rfl, by decide +kernel, rfl, by decide +kernel, by decide +kernel⟩
theorem ok_is_hours (T : Txt0 K mg C_Rule) : OkF P w K mg base 2 "is_hours" ["value"] m_is_hours := by
  refine okF_mk (nm := ["value", "key"]) T.F_is_hours sc_is_hours (fun _ _ _ _ _ _ us hl => match us, hl with | [_], _ => rfl) (fun f cdv A outer s H E hr => ?_)
  have hr1 : Room 1 _ := hr.mono (by decide)
  exact s_cons (s_if (d_not (d_test (d_peek (d_isi T.isi (T.n_isinstance) (p_cons (d_look 0) (p_cons (d_peek (d_ty (by rfl) (T.n_dict) (by rfl))) (p_nil)))))))
      (s_one (s_ret (d_bl)))
      (s_nil))
      (s_one (s_ret (d_eq hr.units (d_peek (d_give (d_lcK 0 rfl sc_is_hours.nd (blkOk_by (own := [("key", 1)]) (by first | (show blkC ["value", "key"] (defScope s_is_hours) _ _ = true; decide +kernel) | kernel_rfl | rfl)) (fun _ _ _ _ _ => t_name (i := 1) sc_is_hours.nd) (gok_name 1) (by decide) (fun _ _ _ _ _ => pts_oneT (w_pt (w_or (d_not (d_test (d_peek (c_call (ok_is_name T) hr1 (a_cons (d_var 1) (a_nil)))))) (w_or1 (d_not (d_test (d_peek (c_call (ok_is_whole T) hr1 (a_cons (d_dx (u1 hr) (d_look 0) (d_look 1)) (a_nil)))))))))) (fun _ _ _ _ _ => d_var 1)))) (d_peek (d_give (d_lst (a_nil)))))))
/-! ### are_hours -/
def b_are_hours : SS := sRet (eAnd (eCall m_is_hours [] (aCons (eVar 2) (aNil))) (eOp oEq (eL (lComp (iSeq (eCall m_standing [] (aCons (eVar 0) (aCons (eVar 1) (aNil))))) (asgN 3) (bOf (eOp (oInK true) (ePeek 3) (ePeek 2))) (eVar 3) [3])) (eL (lDisp (aNil)))))
def m_are_hours : FM := fnM 3 4 b_are_hours
theorem sc_are_hours : FnScope ["one", "other", "value", "name"] ["one", "other", "value"] (defScope s_are_hours) := ⟨rfl, rfl, rfl, by decide +kernel, rfl, by decide +kernel, by decide +kernel⟩
theorem ok_are_hours (T : Txt0 K mg C_Rule) : OkF P w K mg base 16 "are_hours" ["one", "other", "value"] m_are_hours := by
  refine okF_mk (nm := ["one", "other", "value", "name"]) T.F_are_hours sc_are_hours (fun _ _ _ _ _ _ us hl => match us, hl with | [_, _, _], _ => rfl) (fun f cdv A outer s H E hr => ?_)
  have hr2 : Room 2 _ := hr.mono (by decide)
  have hr15 : Room 15 _ := hr.mono (by decide)
  exact s_one (s_ret (v_and (d_peek (c_call (ok_is_hours T) hr2 (a_cons (d_var 2) (a_nil)))) (v_one (d_eq hr.units (d_peek (d_give (d_lc rfl sc_are_hours.nd (i_seq (c_call (ok_standing T) hr15 (a_cons (d_var 0) (a_cons (d_var 1) (a_nil))))) (blkOk_by (own := [("name", 3)]) (by first | (show blkC ["one", "other", "value", "name"] (defScope s_are_hours) _ _ = true; decide +kernel) | kernel_rfl | rfl)) (fun _ _ _ _ _ => t_name (i := 3) sc_are_hours.nd) (gok_name 3) (by decide) (fun _ _ _ _ _ => pts_oneT (d_testC (d_peek (d_ninK (u1 hr) (d_look 3) (d_look 2))))) (fun _ _ _ _ _ => d_var 3)))) (d_peek (d_give (d_lst (a_nil))))))))
/-! ### check_parting -/
def b_check_parting : SS := sSeq (sDrop (eCall m_check_flat [] (aCons (eVar 0) (aNil))))
  (sSeq (sDrop (eCall m_check_flat [] (aCons (eVar 1) (aNil))))
  (sRet (eAnd (eCall m_are_hours [] (aCons (eVar 0) (aCons (eVar 1) (aCons (eVar 2) (aNil))))) (eOp oNe (eCall m_less_told [] (aCons (eVar 0) (aCons (eVar 1) (aCons (eVar 2) (aNil))))) (eC (.int 0))))))
def m_check_parting : FM := fnM 3 3 b_check_parting
theorem sc_check_parting : FnScope ["one", "other", "value"] ["one", "other", "value"] (defScope s_check_parting) := ⟨rfl, rfl, rfl, by decide +kernel, rfl, by decide +kernel, by decide +kernel⟩
theorem okk_check_parting (T : Txt0 K mg C_Rule) : OkFK P w K mg base 21 "check_parting" ["one", "other", "value"] ["value", "other", "one"] List.reverse m_check_parting := by
  refine okFK_mk (nm := ["one", "other", "value"]) pm_rv T.F_check_parting sc_check_parting (fun _ _ _ _ _ _ ws hl => match ws, hl with | [_, _, _], _ => rfl) (fun f cdv A outer s H E hr => ?_)
  have hr15 : Room 15 _ := hr.mono (by decide)
  have hr16 : Room 16 _ := hr.mono (by decide)
  have hr20 : Room 20 _ := hr.mono (by decide)
  exact s_cons (s_drop (d_peek (c_call (ok_check_flat T) hr15 (a_cons (d_var 0) (a_nil)))))
      (s_cons (s_drop (d_peek (c_call (ok_check_flat T) hr15 (a_cons (d_var 1) (a_nil)))))
      (s_one (s_ret (v_and (d_peek (c_call (ok_are_hours T) hr16 (a_cons (d_var 0) (a_cons (d_var 1) (a_cons (d_var 2) (a_nil)))))) (v_one (d_ne hr.units (d_peek (c_call (ok_less_told T) hr20 (a_cons (d_var 0) (a_cons (d_var 1) (a_cons (d_var 2) (a_nil)))))) (d_peek (d_int))))))))
/-! ### reasons -/
def b_reasons : SS := sSeq (sDrop (eCall m_check_flat [] (aCons (eVar 0) (aNil))))
  (sSeq (sDrop (eCall m_check_flat [] (aCons (eVar 1) (aNil))))
  (sSeq (sSet 2 (eCall m_behind_hours [] (aCons (eVar 0) (aCons (eVar 1) (aNil)))))
  (sSeq (sIf (bOf (eOp oNotN (ePeek 2) (eC .non)))
  (sRet (eTup (aCons (eC (.str "behind")) (aCons (eVar 2) (aNil)))))
  (sNil))
  (sSeq (sPar 3 4 (.val (eCall m_canonical [] (aCons (eVar 0) (aNil)))) (.own (lDisp (aNil))))
  (sSeq (sFor (iSeq (eCall m_canonical [] (aCons (eVar 1) (aNil)))) (asgN 5)
  (sApp 4 (eTup (aCons (eCall m_row_of [] (aCons (eVar 5) (aNil))) (aCons (eCall m_row_of [] (aCons (eOp oIx (eL (lComp (iSeq (eVar 3)) (asgN 6) (bOf (eCall m_is_within [] (aCons (eVar 6) (aCons (eVar 5) (aNil))))) (eVar 6) [6])) (eC (.int 0))) (aNil))) (aNil))))))
  (sFrz 4 (sRet (eTup (aCons (eC (.str "never")) (aCons (eVar 4) (aNil)))))))))))
def m_reasons : FM := fnM 2 7 b_reasons
theorem sc_reasons : FnScope ["one", "other", "found", "mine", "pairs", "row", "less"] ["one", "other"] (defScope s_reasons) := ⟨rfl, rfl, rfl, by decide +kernel, rfl, by decide +kernel, by decide +kernel⟩
theorem okk_reasons (T : Txt0 K mg C_Rule) : OkFK P w K mg base 21 "reasons" ["one", "other"] ["other", "one"] List.reverse m_reasons := by
  refine okFK_mk (nm := ["one", "other", "found", "mine", "pairs", "row", "less"]) pm_rv T.F_reasons sc_reasons (fun _ _ _ _ _ _ ws hl => match ws, hl with | [_, _], _ => rfl) (fun f cdv A outer s H E hr => ?_)
  have hr1 : Room 1 _ := hr.mono (by decide)
  have hr15 : Room 15 _ := hr.mono (by decide)
  have hr19 : Room 19 _ := hr.mono (by decide)
  have hr20 : Room 20 _ := hr.mono (by decide)
  exact s_cons (s_drop (d_peek (c_call (ok_check_flat T) hr15 (a_cons (d_var 0) (a_nil)))))
      (s_cons (s_drop (d_peek (c_call (ok_check_flat T) hr15 (a_cons (d_var 1) (a_nil)))))
      (s_cons (s_set (i := 2) sc_reasons.nd (c_call (ok_behind_hours T) hr20 (a_cons (d_var 0) (a_cons (d_var 1) (a_nil)))))
      (s_cons (s_if (d_testC (d_peek (d_notN (d_look 2) (d_peek (d_non)))))
      (s_one (s_ret (d_tup (a_cons (d_str) (a_cons (d_var 2) (a_nil))))))
      (s_nil))
      (s_cons (s_par (i := 3) (j := 4) (ka := .val (eCall m_canonical [] (aCons (eVar 0) (aNil)))) (kb := .own (lDisp (aNil))) sc_reasons.nd (k_val (c_call (ok_canonical T) hr19 (a_cons (d_var 0) (a_nil)))) (k_own (d_lst (a_nil))))
      (s_cons (s_for PassesOwn.never rfl (i_seq (c_call (ok_canonical T) hr19 (a_cons (d_var 1) (a_nil)))) (t_name (i := 5) sc_reasons.nd) (gok_name 5)
      (s_one (s_app (i := 4) (d_tup (a_cons (c_call (ok_row_of T) hr1 (a_cons (d_var 5) (a_nil))) (a_cons (c_call (ok_row_of T) hr1 (a_cons (d_ix (d_peek (d_give (d_lc rfl sc_reasons.nd (i_seq (d_var 3)) (blkOk_by (own := [("less", 6)]) (by first | (show blkC ["one", "other", "found", "mine", "pairs", "row", "less"] (defScope s_reasons) _ _ = true; decide +kernel) | kernel_rfl | rfl)) (fun _ _ _ _ _ => t_name (i := 6) sc_reasons.nd) (gok_name 6) (by decide) (fun _ _ _ _ _ => pts_oneT (d_test (d_peek (c_call (ok_is_within T) hr1 (a_cons (d_var 6) (a_cons (d_var 5) (a_nil))))))) (fun _ _ _ _ _ => d_var 6)))) (d_peek (d_int))) (a_nil))) (a_nil)))))))
      (s_one (s_frz 4 (s_ret (d_tup (a_cons (d_str) (a_cons (d_var 4) (a_nil))))))))))))
/-! ### is_pair -/
def b_is_pair : SS := sSeq (sIf (bOr (bNot (bOf (eBi (gIsi CS) (aCons (ePeek 2) (aCons (eC (.ty "tuple")) (aNil)))))) (bOr (bOf (eOp oNe (eBi gLen (aCons (ePeek 2) (aNil))) (eC (.int 2)))) (bOr (bNot (bOf (eCall m_is_row [] (aCons (eOp oIx (ePeek 2) (eC (.int 0))) (aNil))))) (bNot (bOf (eCall m_is_row [] (aCons (eOp oIx (ePeek 2) (eC (.int 1))) (aNil))))))))
  (sRet (eC (.bl false)))
  (sNil))
  (sSeq (sSet 3 (eCall m_dict_of [] (aCons (eOp oIx (ePeek 2) (eC (.int 1))) (aNil))))
  (sRet (eAnd (eOp (oEqDD false) (eCall m_dict_of [] (aCons (eOp oIx (ePeek 2) (eC (.int 0))) (aNil))) (ePeek 1)) (eAnd (eOp (oInLD false) (ePeek 3) (ePeek 0)) (eCall m_is_within [] (aCons (eVar 3) (aCons (eVar 1) (aNil))))))))
def m_is_pair : FM := fnM 3 4 b_is_pair
theorem sc_is_pair : FnScope ["mine", "row", "value", "less"] ["mine", "row", "value"] (defScope s_is_pair) := ⟨rfl, rfl, rfl, by decide +kernel, rfl, by decide +kernel, by decide +kernel⟩
theorem ok_is_pair (T : Txt0 K mg C_Rule) : OkF P w K mg base 3 "is_pair" ["mine", "row", "value"] m_is_pair := by
  refine okF_mk (nm := ["mine", "row", "value", "less"]) T.F_is_pair sc_is_pair (fun _ _ _ _ _ _ us hl => match us, hl with | [_, _, _], _ => rfl) (fun f cdv A outer s H E hr => ?_)
  have hr1 : Room 1 _ := hr.mono (by decide)
  have hr2 : Room 2 _ := hr.mono (by decide)
  exact s_cons (s_if (w_pt (w_or (d_not (d_test (d_peek (d_isi T.isi (T.n_isinstance) (p_cons (d_look 2) (p_cons (d_peek (d_ty (by rfl) (T.n_tuple) (by rfl))) (p_nil))))))) (w_or (d_testC (d_peek (d_ne hr.units (d_peek (d_len (T.n_len) (p_cons (d_look 2) (p_nil)))) (d_peek (d_int))))) (w_or (d_not (d_test (d_peek (c_call (ok_is_row T) hr2 (a_cons (d_ix (d_look 2) (d_peek (d_int))) (a_nil)))))) (w_or1 (d_not (d_test (d_peek (c_call (ok_is_row T) hr2 (a_cons (d_ix (d_look 2) (d_peek (d_int))) (a_nil)))))))))))
      (s_one (s_ret (d_bl)))
      (s_nil))
      (s_cons (s_set (i := 3) sc_is_pair.nd (c_call (ok_dict_of T) hr1 (a_cons (d_ix (d_look 2) (d_peek (d_int))) (a_nil))))
      (s_one (s_ret (v_and (d_peek (d_eqDD (u65 hr) (d_peek (c_call (ok_dict_of T) hr1 (a_cons (d_ix (d_look 2) (d_peek (d_int))) (a_nil)))) (d_look 1))) (v_and (d_peek (d_inLD (u65 hr) (d_look 3) (d_look 0))) (v_one (c_call (ok_is_within T) hr1 (a_cons (d_var 3) (a_cons (d_var 1) (a_nil))))))))))
/-! ### is_reasons -/
def b_is_reasons : SS := sSeq (sDrop (eCall m_check_flat [] (aCons (eVar 0) (aNil))))
  (sSeq (sDrop (eCall m_check_flat [] (aCons (eVar 1) (aNil))))
  (sSeq (sIf (bOr (bNot (bOf (eBi (gIsi CS) (aCons (ePeek 2) (aCons (eC (.ty "tuple")) (aNil)))))) (bOr (bOf (eOp oNe (eBi gLen (aCons (ePeek 2) (aNil))) (eC (.int 2)))) (bNot (bOf (eBi (gIsi CS) (aCons (eOp oIx (ePeek 2) (eC (.int 0))) (aCons (eC (.ty "str")) (aNil))))))))
  (sRet (eC (.bl false)))
  (sNil))
  (sSeq (sIf (bOf (eOp oEq (eOp oIx (ePeek 2) (eC (.int 0))) (eC (.str "behind"))))
  (sRet (eAnd (eCall m_are_hours [] (aCons (eVar 0) (aCons (eVar 1) (aCons (eOp oIx (ePeek 2) (eC (.int 1))) (aNil))))) (eOp oGt (eCall m_less_told [] (aCons (eVar 0) (aCons (eVar 1) (aCons (eOp oIx (ePeek 2) (eC (.int 1))) (aNil))))) (eC (.int 0)))))
  (sNil))
  (sSeq (sUnp [3, 4] (eTup (aCons (eCall m_canonical [] (aCons (eVar 0) (aNil))) (aCons (eCall m_canonical [] (aCons (eVar 1) (aNil))) (aNil)))))
  (sSeq (sIf (bOr (bOf (eOp oNe (eOp oIx (ePeek 2) (eC (.int 0))) (eC (.str "never")))) (bOr (bNot (bOf (eBi (gIsi CS) (aCons (eOp oIx (ePeek 2) (eC (.int 1))) (aCons (eC (.ty "list")) (aNil)))))) (bOf (eOp oNe (eBi gLen (aCons (eOp oIx (ePeek 2) (eC (.int 1))) (aNil))) (eBi gLen (aCons (ePeek 4) (aNil)))))))
  (sRet (eC (.bl false)))
  (sNil))
  (sRet (eOp oEq (eL (lComp (iEnm (aCons (eVar 4) (aNil))) (asgT [5, 6]) (bNot (bOf (eCall m_is_pair [] (aCons (eVar 3) (aCons (eVar 6) (aCons (eOp oIx (eOp oIx (ePeek 2) (eC (.int 1))) (ePeek 5)) (aNil))))))) (eVar 5) [5, 6])) (eL (lDisp (aNil))))))))))
def m_is_reasons : FM := fnM 3 7 b_is_reasons
theorem sc_is_reasons : FnScope ["one", "other", "value", "mine", "its", "at", "row"] ["one", "other", "value"] (defScope s_is_reasons) := ⟨rfl, rfl, rfl, by decide +kernel, rfl, by decide +kernel, by decide +kernel⟩
theorem okk_is_reasons (T : Txt0 K mg C_Rule) : OkFK P w K mg base 21 "is_reasons" ["one", "other", "value"] ["value", "other", "one"] List.reverse m_is_reasons := by
  refine okFK_mk (nm := ["one", "other", "value", "mine", "its", "at", "row"]) pm_rv T.F_is_reasons sc_is_reasons (fun _ _ _ _ _ _ ws hl => match ws, hl with | [_, _, _], _ => rfl) (fun f cdv A outer s H E hr => ?_)
  have hr3 : Room 3 _ := hr.mono (by decide)
  have hr15 : Room 15 _ := hr.mono (by decide)
  have hr16 : Room 16 _ := hr.mono (by decide)
  have hr19 : Room 19 _ := hr.mono (by decide)
  have hr20 : Room 20 _ := hr.mono (by decide)
  exact s_cons (s_drop (d_peek (c_call (ok_check_flat T) hr15 (a_cons (d_var 0) (a_nil)))))
      (s_cons (s_drop (d_peek (c_call (ok_check_flat T) hr15 (a_cons (d_var 1) (a_nil)))))
      (s_cons (s_if (w_pt (w_or (d_not (d_test (d_peek (d_isi T.isi (T.n_isinstance) (p_cons (d_look 2) (p_cons (d_peek (d_ty (by rfl) (T.n_tuple) (by rfl))) (p_nil))))))) (w_or (d_testC (d_peek (d_ne hr.units (d_peek (d_len (T.n_len) (p_cons (d_look 2) (p_nil)))) (d_peek (d_int))))) (w_or1 (d_not (d_test (d_peek (d_isi T.isi (T.n_isinstance) (p_cons (d_peek (d_ix (d_look 2) (d_peek (d_int)))) (p_cons (d_peek (d_ty (by rfl) (T.n_str) (by rfl))) (p_nil)))))))))))
      (s_one (s_ret (d_bl)))
      (s_nil))
      (s_cons (s_if (d_testC (d_peek (d_eq hr.units (d_peek (d_ix (d_look 2) (d_peek (d_int)))) (d_peek (d_str)))))
      (s_one (s_ret (v_and (d_peek (c_call (ok_are_hours T) hr16 (a_cons (d_var 0) (a_cons (d_var 1) (a_cons (d_ix (d_look 2) (d_peek (d_int))) (a_nil)))))) (v_one (d_gt (d_peek (c_call (ok_less_told T) hr20 (a_cons (d_var 0) (a_cons (d_var 1) (a_cons (d_ix (d_look 2) (d_peek (d_int))) (a_nil)))))) (d_peek (d_int)))))))
      (s_nil))
      (s_cons (s_unp (is := [3, 4]) rfl (d_tup (a_cons (c_call (ok_canonical T) hr19 (a_cons (d_var 0) (a_nil))) (a_cons (c_call (ok_canonical T) hr19 (a_cons (d_var 1) (a_nil))) (a_nil)))) (g_cons (i := 3) sc_is_reasons.nd (g_cons (i := 4) sc_is_reasons.nd (g_nil))))
      (s_cons (s_if (w_pt (w_or (d_testC (d_peek (d_ne hr.units (d_peek (d_ix (d_look 2) (d_peek (d_int)))) (d_peek (d_str))))) (w_or (d_not (d_test (d_peek (d_isi T.isi (T.n_isinstance) (p_cons (d_peek (d_ix (d_look 2) (d_peek (d_int)))) (p_cons (d_peek (d_ty (by rfl) (T.n_list) (by rfl))) (p_nil))))))) (w_or1 (d_testC (d_peek (d_ne hr.units (d_peek (d_len (T.n_len) (p_cons (d_peek (d_ix (d_look 2) (d_peek (d_int)))) (p_nil)))) (d_peek (d_len (T.n_len) (p_cons (d_look 4) (p_nil)))))))))))
      (s_one (s_ret (d_bl)))
      (s_nil))
      (s_one (s_ret (d_eq hr.units (d_peek (d_give (d_lc rfl sc_is_reasons.nd (i_enum (T.n_enumerate) (a_cons (d_var 4) (a_nil))) (blkOk_by (own := [("at", 5), ("row", 6)]) (by first | (show blkC ["one", "other", "value", "mine", "its", "at", "row"] (defScope s_is_reasons) _ _ = true; decide +kernel) | kernel_rfl | rfl)) (fun _ _ _ _ _ => t_tup rfl (g_cons (i := 5) sc_is_reasons.nd (g_cons (i := 6) sc_is_reasons.nd (g_nil))) (n := 2)) (gok_tup [5, 6] 2 rfl) (by decide) (fun _ _ _ _ _ => pts_oneT (d_not (d_test (d_peek (c_call (ok_is_pair T) hr3 (a_cons (d_var 3) (a_cons (d_var 6) (a_cons (d_ix (d_peek (d_ix (d_look 2) (d_peek (d_int)))) (d_look 5)) (a_nil))))))))) (fun _ _ _ _ _ => d_var 5)))) (d_peek (d_give (d_lst (a_nil))))))))))))
/-! ### lots_by_size -/
def b_lots_by_size : SS := sSeq (sSet 1 (eL (lDisp (aCons (eL (lDisp (aNil))) (aNil)))))
  (sSeq (sFor (iSeq (eVar 0)) (asgN 2)
  (sSet 1 (eOp oAdd (ePeek 1) (eL (lComp (iSeq (eVar 1)) (asgN 3) (bYes) (eOp oAdd (ePeek 3) (eL (lDisp (aCons (eVar 2) (aNil))))) [3])))))
  (sRet (eL (lComp (iSeq (eL (eBi gSortX (aCons (eL (lComp (iSeq (eVar 1)) (asgN 3) (bYes) (eTup (aCons (eOp oSub (eC (.int 0)) (eBi gLen (aCons (ePeek 3) (aNil)))) (aCons (eVar 3) (aNil)))) [3])) (aNil))))) (asgT [4, 3]) (bYes) (eVar 3) [4, 3]))))
def m_lots_by_size : FM := fnM 1 5 b_lots_by_size
theorem sc_lots_by_size : FnScope ["items", "found", "item", "lot", "size"] ["items"] (defScope s_lots_by_size) := ⟨rfl, rfl, rfl, by decide +kernel, rfl, by decide +kernel, by decide +kernel⟩
theorem ok_lots_by_size (T : Txt0 K mg C_Rule) : OkF P w K mg base 1 "lots_by_size" ["items"] m_lots_by_size := by
  refine okF_mk (nm := ["items", "found", "item", "lot", "size"]) T.F_lots_by_size sc_lots_by_size (fun _ _ _ _ _ _ us hl => match us, hl with | [_], _ => rfl) (fun f cdv A outer s H E hr => ?_)
  exact s_cons (s_set (i := 1) sc_lots_by_size.nd (d_give (d_lst (a_cons (d_give (d_lst (a_nil))) (a_nil)))))
      (s_cons (s_for PassesOwn.never rfl (i_seq (d_var 0)) (t_name (i := 2) sc_lots_by_size.nd) (gok_name 2)
      (s_one (s_set (i := 1) sc_lots_by_size.nd (d_add (d_look 1) (d_peek (d_give (d_lc rfl sc_lots_by_size.nd (i_seq (d_var 1)) (blkOk_by (own := [("lot", 3)]) (by first | (show blkC ["items", "found", "item", "lot", "size"] (defScope s_lots_by_size) _ _ = true; decide +kernel) | kernel_rfl | rfl)) (fun _ _ _ _ _ => t_name (i := 3) sc_lots_by_size.nd) (gok_name 3) (by decide) (fun _ _ _ _ _ => pts_nilT) (fun _ _ _ _ _ => d_add (d_look 3) (d_peek (d_give (d_lst (a_cons (d_var 2) (a_nil)))))))))))))
      (s_one (s_ret (d_give (d_lc rfl sc_lots_by_size.nd (i_seq (d_give (d_sortX (u80 hr) T.n_sorted (p_cons (d_peek (d_give (d_lc rfl sc_lots_by_size.nd (i_seq (d_var 1)) (blkOk_by (own := [("lot", 3)]) (by first | (show blkC ["items", "found", "item", "lot", "size"] (defScope s_lots_by_size) _ _ = true; decide +kernel) | kernel_rfl | rfl)) (fun _ _ _ _ _ => t_name (i := 3) sc_lots_by_size.nd) (gok_name 3) (by decide) (fun _ _ _ _ _ => pts_nilT) (fun _ _ _ _ _ => d_tup (a_cons (d_sub (d_peek (d_int)) (d_peek (d_len (T.n_len) (p_cons (d_look 3) (p_nil))))) (a_cons (d_var 3) (a_nil))))))) (p_nil))))) (blkOk_by (own := [("size", 4), ("lot", 3)]) (by first | (show blkC ["items", "found", "item", "lot", "size"] (defScope s_lots_by_size) _ _ = true; decide +kernel) | kernel_rfl | rfl)) (fun _ _ _ _ _ => t_tup rfl (g_cons (i := 4) sc_lots_by_size.nd (g_cons (i := 3) sc_lots_by_size.nd (g_nil))) (n := 2)) (gok_tup [4, 3] 2 rfl) (by decide) (fun _ _ _ _ _ => pts_nilT) (fun _ _ _ _ _ => d_var 3))))))
/-! ### left_term (recursion) -/
def b_left_term (r_left_term : FM) : SS := sSeq (sIf (bOf (eCall m_is_part [] (aCons (eVar 0) (aNil))))
  (sRet (eIf (bOf (eOp (oInP false) (ePeek 1) (ePeek 2))) (eC .non) (eVar 0)))
  (sNil))
  (sSeq (sSet 3 (eL (lComp (iEnm (aCons (eOp oIx (ePeek 0) (eNeg (eC (.int 1)))) (aNil))) (asgT [4, 5]) (bYes) (eCall r_left_term [] (aCons (eVar 5) (aCons (eOp oAdd (ePeek 1) (eTup (aCons (eVar 4) (aNil)))) (aCons (eVar 2) (aNil))))) [4, 5])))
  (sSeq (sSet 3 (eL (lComp (iSeq (eVar 3)) (asgN 5) (bOf (eOp oNotN (ePeek 5) (eC .non))) (eVar 5) [5])))
  (sSeq (sIf (bOf (eOp oEq (ePeek 3) (eL (lDisp (aNil)))))
  (sRet (eC .non))
  (sNil))
  (sSeq (sIf (bOf (eOp oEq (eOp oIx (ePeek 0) (eC (.int 0))) (eC (.str "rank"))))
  (sRet (eTup (aCons (eC (.str "rank")) (aCons (eBi gMin (aCons (eOp oIx (ePeek 0) (eC (.int 1))) (aCons (eBi gLen (aCons (ePeek 3) (aNil))) (aNil)))) (aCons (eVar 3) (aNil))))))
  (sNil))
  (sRet (eTup (aCons (eOp oIx (ePeek 0) (eC (.int 0))) (aCons (eVar 3) (aNil)))))))))
def st_left_term (p : FM) : FM := (fnM 3 6 (b_left_term (p)))
def mm_left_term : Nat → FM
  | 0 => (fun _ _ => none)
  | n + 1 => st_left_term (mm_left_term n)
abbrev mr_left_term (n : Nat) : FM := (mm_left_term n)
abbrev m_left_term : FM := mr_left_term 11
theorem sc_left_term : FnScope ["term", "path", "gone", "inner", "at", "one"] ["term", "path", "gone"] (defScope s_left_term) := ⟨rfl, rfl, rfl, by decide +kernel, rfl, by decide +kernel, by decide +kernel⟩
theorem okr_left_term (T : Txt0 K mg C_Rule) : ∀ n : Nat, OkF P w K mg base (2 + n) "left_term" ["term", "path", "gone"] (mr_left_term n)
  | 0 => okF_0 T.F_left_term (fun _ _ _ _ _ _ us hl => match us, hl with | [_, _, _], _ => rfl)
  | n + 1 => by
    have ih_left_term := okr_left_term T n
    refine okF_mk (k := 2 + n) (nm := ["term", "path", "gone", "inner", "at", "one"]) T.F_left_term sc_left_term (fun _ _ _ _ _ _ us hl => match us, hl with | [_, _, _], _ => rfl) (fun f cdv A outer s H E hr => ?_)
    have hr1 : Room 1 _ := hr.mono (by omega)
    exact s_cons (s_if (d_test (d_peek (c_call (ok_is_part T) hr1 (a_cons (d_var 0) (a_nil)))))
            (s_one (s_ret (d_if (d_testC (d_peek (d_inP (u65 hr) (d_look 1) (d_look 2)))) (d_non) (d_var 0))))
            (s_nil))
            (s_cons (s_lc (i := 3) rfl sc_left_term.nd rfl rfl (sw_true rfl rfl rfl (by decide +kernel)) (i_enum (T.n_enumerate) (a_cons (d_ix (d_look 0) (d_peek (d_neg (d_peek (d_int))))) (a_nil))) (blkOk_by (own := [("at", 4), ("one", 5)]) (by first | (show blkC ["term", "path", "gone", "inner", "at", "one"] (defScope s_left_term) _ _ = true; decide +kernel) | kernel_rfl | rfl)) (fun _ _ _ _ _ => t_tup rfl (g_cons (i := 4) sc_left_term.nd (g_cons (i := 5) sc_left_term.nd (g_nil))) (n := 2)) (gok_tup [4, 5] 2 rfl) (by decide) (fun _ _ _ _ _ => pts_nilT) (fun _ _ _ _ _ => c_call ih_left_term hr (a_cons (d_var 5) (a_cons (d_add (d_look 1) (d_peek (d_tup (a_cons (d_var 4) (a_nil))))) (a_cons (d_var 2) (a_nil))))))
            (s_cons (s_lc (i := 3) rfl sc_left_term.nd rfl rfl (sw_true rfl rfl rfl (by decide +kernel)) (i_seq (d_var 3)) (blkOk_by (own := [("one", 5)]) (by first | (show blkC ["term", "path", "gone", "inner", "at", "one"] (defScope s_left_term) _ _ = true; decide +kernel) | kernel_rfl | rfl)) (fun _ _ _ _ _ => t_name (i := 5) sc_left_term.nd) (gok_name 5) (by decide) (fun _ _ _ _ _ => pts_oneT (d_testC (d_peek (d_notN (d_look 5) (d_peek (d_non)))))) (fun _ _ _ _ _ => d_var 5))
            (s_cons (s_if (d_testC (d_peek (d_eq hr.units (d_look 3) (d_peek (d_give (d_lst (a_nil)))))))
            (s_one (s_ret (d_non)))
            (s_nil))
            (s_cons (s_if (d_testC (d_peek (d_eq hr.units (d_peek (d_ix (d_look 0) (d_peek (d_int)))) (d_peek (d_str)))))
            (s_one (s_ret (d_tup (a_cons (d_str) (a_cons (d_min rfl (T.n_min) (p_cons (d_peek (d_ix (d_look 0) (d_peek (d_int)))) (p_cons (d_peek (d_len (T.n_len) (p_cons (d_look 3) (p_nil)))) (p_nil)))) (a_cons (d_var 3) (a_nil)))))))
            (s_nil))
            (s_one (s_ret (d_tup (a_cons (d_ix (d_look 0) (d_peek (d_int))) (a_cons (d_var 3) (a_nil))))))))))
theorem ok_left_term (T : Txt0 K mg C_Rule) : OkF P w K mg base 13 "left_term" ["term", "path", "gone"] m_left_term := (okr_left_term T 11)
/-! ### lean -/
def b_lean : SS := sSeq (sDrop (eCall m_check_flat [] (aCons (eVar 0) (aNil))))
  (sSeq (sPar 1 2 (.val (eCall m_canonical [] (aCons (eVar 0) (aNil)))) (.val (eL (lComp (iSeq (eCall m_parts_from [] (aCons (eFld "Rule" "form" (ePeek 0)) (aCons (eTup (aNil)) (aNil))))) (asgT [3, 4]) (bYes) (eVar 3) [3, 4]))))
  (sSeq (sFor (iSeq (eCall m_lots_by_size [] (aCons (eVar 2) (aNil)))) (asgN 5)
  (sIf (bOf (eOp oLt (eBi gLen (aCons (ePeek 5) (aNil))) (eBi gLen (aCons (ePeek 2) (aNil)))))
  (sSeq (sSet 6 (eCall m_left_term [] (aCons (eFld "Rule" "form" (ePeek 0)) (aCons (eTup (aNil)) (aCons (eVar 5) (aNil))))))
  (sIf (bOf (eOp oEqLD (eCall m_name_rows [] (aCons (eVar 6) (aNil))) (ePeek 1)))
  (sRet (eMake "Rule" m_Rule___init__ [] (aCons (eVar 6) (aNil))))
  (sNil)))
  (sNil)))
  (sRet (eVar 0))))
def m_lean : FM := fnM 1 7 b_lean
theorem sc_lean : FnScope ["rule", "some", "paths", "path", "part", "gone", "term"] ["rule"] (defScope s_lean) := ⟨rfl, rfl, rfl, by decide +kernel, rfl, by decide +kernel, by decide +kernel⟩
theorem okk_lean (T : Txt0 K mg C_Rule) : OkFK P w K mg base 27 "lean" ["rule"] ["rule"] (fun l => l) m_lean := by
  refine okFK_mk (nm := ["rule", "some", "paths", "path", "part", "gone", "term"]) pm_id T.F_lean sc_lean (fun _ _ _ _ _ _ ws hl => match ws, hl with | [_], _ => rfl) (fun f cdv A outer s H E hr => ?_)
  have hr1 : Room 1 _ := hr.mono (by decide)
  have hr13 : Room 13 _ := hr.mono (by decide)
  have hr15 : Room 15 _ := hr.mono (by decide)
  have hr18 : Room 18 _ := hr.mono (by decide)
  have hr19 : Room 19 _ := hr.mono (by decide)
  have hr26 : Room 26 _ := hr.mono (by decide)
  exact s_cons (s_drop (d_peek (c_call (ok_check_flat T) hr15 (a_cons (d_var 0) (a_nil)))))
      (s_cons (s_par (i := 1) (j := 2) (ka := .val (eCall m_canonical [] (aCons (eVar 0) (aNil)))) (kb := .val (eL (lComp (iSeq (eCall m_parts_from [] (aCons (eFld "Rule" "form" (ePeek 0)) (aCons (eTup (aNil)) (aNil))))) (asgT [3, 4]) (bYes) (eVar 3) [3, 4]))) sc_lean.nd (k_val (c_call (ok_canonical T) hr19 (a_cons (d_var 0) (a_nil)))) (k_val (d_give (d_lc rfl sc_lean.nd (i_seq (c_call (ok_parts_from T) hr13 (a_cons (d_fld (d_look 0) T.c_Rule T.k_Rule T.a_Rule_form) (a_cons (d_tup (a_nil)) (a_nil))))) (blkOk_by (own := [("path", 3), ("part", 4)]) (by first | (show blkC ["rule", "some", "paths", "path", "part", "gone", "term"] (defScope s_lean) _ _ = true; decide +kernel) | kernel_rfl | rfl)) (fun _ _ _ _ _ => t_tup rfl (g_cons (i := 3) sc_lean.nd (g_cons (i := 4) sc_lean.nd (g_nil))) (n := 2)) (gok_tup [3, 4] 2 rfl) (by decide) (fun _ _ _ _ _ => pts_nilT) (fun _ _ _ _ _ => d_var 3)))))
      (s_cons (s_for PassesOwn.never rfl (i_seq (c_call (ok_lots_by_size T) hr1 (a_cons (d_var 2) (a_nil)))) (t_name (i := 5) sc_lean.nd) (gok_name 5)
      (s_one (s_if (d_testC (d_peek (d_lt (d_peek (d_len (T.n_len) (p_cons (d_look 5) (p_nil)))) (d_peek (d_len (T.n_len) (p_cons (d_look 2) (p_nil)))))))
      (s_cons (s_set (i := 6) sc_lean.nd (c_call (ok_left_term T) hr13 (a_cons (d_fld (d_look 0) T.c_Rule T.k_Rule T.a_Rule_form) (a_cons (d_tup (a_nil)) (a_cons (d_var 5) (a_nil))))))
      (s_one (s_if (d_testC (d_peek (d_eqLD (u65 hr) (d_peek (c_call (ok_name_rows T) hr18 (a_cons (d_var 6) (a_nil)))) (d_look 1))))
      (s_one (s_ret (c_make (ok_Rule___init__ T) T.c_Rule hr26 (a_cons (d_var 6) (a_nil)))))
      (s_nil))))
      (s_nil))))
      (s_one (s_ret (d_var 0)))))
/-! ### marked_term (recursion) -/
def b_marked_term (r_marked_term : FM) : SS := sSeq (sIf (bOf (eOp oEq (ePeek 1) (eTup (aNil))))
  (sRet (eTup (aCons (eC (.str "now")) (aCons (eOp oIx (ePeek 0) (eC (.int 1))) (aCons (eC (.int 0)) (aNil))))))
  (sNil))
  (sSeq (sOwn 2 (eBi gList (aCons (eOp oIx (ePeek 0) (eNeg (eC (.int 1)))) (aNil))))
  (sSeq (sPut 2 (eOp oIx (ePeek 1) (eC (.int 0))) (eCall r_marked_term [] (aCons (eOp oIx (ePeek 2) (eOp oIx (ePeek 1) (eC (.int 0)))) (aCons (eSl slT (ePeek 1) (oSome (eC (.int 1))) (oNone)) (aNil)))))
  (sFrz 2 (sRet (eOp oAdd (eSl slT (ePeek 0) (oNone) (oSome (eNeg (eC (.int 1))))) (eTup (aCons (eVar 2) (aNil))))))))
def st_marked_term (p : FM) : FM := (fnM 2 3 (b_marked_term (p)))
def mm_marked_term : Nat → FM
  | 0 => (fun _ _ => none)
  | n + 1 => st_marked_term (mm_marked_term n)
abbrev mr_marked_term (n : Nat) : FM := (mm_marked_term n)
abbrev m_marked_term : FM := mr_marked_term 11
theorem sc_marked_term : FnScope ["term", "path", "inner"] ["term", "path"] (defScope s_marked_term) := ⟨rfl, rfl, rfl, by decide +kernel, rfl, by decide +kernel, by decide +kernel⟩
theorem okr_marked_term (T : Txt0 K mg C_Rule) : ∀ n : Nat, OkF P w K mg base (1 + n) "marked_term" ["term", "path"] (mr_marked_term n)
  | 0 => okF_0 T.F_marked_term (fun _ _ _ _ _ _ us hl => match us, hl with | [_, _], _ => rfl)
  | n + 1 => by
    have ih_marked_term := okr_marked_term T n
    refine okF_mk (k := 1 + n) (nm := ["term", "path", "inner"]) T.F_marked_term sc_marked_term (fun _ _ _ _ _ _ us hl => match us, hl with | [_, _], _ => rfl) (fun f cdv A outer s H E hr => ?_)
    exact s_cons (s_if (d_testC (d_peek (d_eq hr.units (d_look 1) (d_peek (d_tup (a_nil))))))
            (s_one (s_ret (d_tup (a_cons (d_str) (a_cons (d_ix (d_look 0) (d_peek (d_int))) (a_cons (d_int) (a_nil)))))))
            (s_nil))
            (s_cons (s_own (i := 2) sc_marked_term.nd (d_list (T.n_list) (p_cons (d_peek (d_ix (d_look 0) (d_peek (d_neg (d_peek (d_int)))))) (p_nil))))
            (s_cons (s_put (i := 2) (c_call ih_marked_term hr (a_cons (d_ix (d_look 2) (d_peek (d_ix (d_look 1) (d_peek (d_int))))) (a_cons (d_slT (d_look 1) (o_some (d_peek (d_int))) (o_none)) (a_nil)))) (d_peek (d_ix (d_look 1) (d_peek (d_int)))))
            (s_one (s_frz 2 (s_ret (d_add (d_peek (d_slT (d_look 0) (o_none) (o_some (d_peek (d_neg (d_peek (d_int))))))) (d_peek (d_tup (a_cons (d_var 2) (a_nil))))))))))
theorem ok_marked_term (T : Txt0 K mg C_Rule) : OkF P w K mg base 12 "marked_term" ["term", "path"] m_marked_term := (okr_marked_term T 11)
/-! ### most_or_none -/
def b_most_or_none : SS := sRet (eIf (bOf (eOp oInN (eC .non) (ePeek 0))) (eC .non) (eBi gMax (aCons (ePeek 0) (aNil))))
def m_most_or_none : FM := fnM 1 1 b_most_or_none
theorem sc_most_or_none : FnScope ["numbers"] ["numbers"] (defScope s_most_or_none) := ⟨rfl, rfl, rfl, by decide +kernel, rfl, by decide +kernel, by decide +kernel⟩
theorem ok_most_or_none (T : Txt0 K mg C_Rule) : OkF P w K mg base 1 "most_or_none" ["numbers"] m_most_or_none := by
  refine okF_mk (nm := ["numbers"]) T.F_most_or_none sc_most_or_none (fun _ _ _ _ _ _ us hl => match us, hl with | [_], _ => rfl) (fun f cdv A outer s H E hr => ?_)
  exact s_one (s_ret (d_if (d_testC (d_peek (d_inN (u65 hr) (d_peek (d_non)) (d_look 0)))) (d_non) (d_max rfl (T.n_max) (p_cons (d_look 0) (p_nil)))))
/-! ### less_of -/
def b_less_of : SS := sSeq (sPar 5 6 (.own (lDisp (aNil))) (.val (eDT (dCompT (iKyT 0) (asgN 7) (bOf (eOp oNe (ePeek 7) (ePeek 1))) (eVar 7) (eOp oDxT (ePeek 0) (ePeek 7)) [7]))))
  (sSeq (sFor (iSeq (eVar 4)) (asgN 8)
  (sIf (bOf (eCall m_is_within_t [] (aCons (eDT (dCompT (iKyT 8) (asgN 7) (bOf (eOp oNe (ePeek 7) (ePeek 2))) (eVar 7) (eOp oDxT (ePeek 8) (ePeek 7)) [7])) (aCons (eVar 6) (aNil)))))
  (sIf (bOr (bOf (eOp (oInKT true) (ePeek 2) (ePeek 8))) (bAnd (bOf (eOp (oInKT false) (ePeek 2) (ePeek 6))) (bOf (eOp oLe (eOp oDxT (ePeek 8) (ePeek 2)) (eOp oDxT (ePeek 6) (ePeek 2))))))
  (sApp 5 (eC .non))
  (sIf (bOf (eOp oLe (eOp oDxT (ePeek 8) (ePeek 2)) (ePeek 3)))
  (sApp 5 (eOp oSub (ePeek 3) (eOp oDxT (ePeek 8) (ePeek 2))))
  (sNil)))
  (sNil)))
  (sFrz 5 (sRet (eCall m_most_or_none [] (aCons (eVar 5) (aNil))))))
def m_less_of : FM := fnM 5 9 b_less_of
theorem sc_less_of : FnScope ["row", "mark", "own", "wait", "some", "found", "left", "key", "one"] ["row", "mark", "own", "wait", "some"] (defScope s_less_of) := ⟨rfl, rfl, rfl, by decide +kernel, rfl, by decide +kernel, by decide +kernel⟩
theorem ok_less_of (T : Txt0 K mg C_Rule) : OkF P w K mg base 2 "less_of" ["row", "mark", "own", "wait", "some"] m_less_of := by
  refine okF_mk (nm := ["row", "mark", "own", "wait", "some", "found", "left", "key", "one"]) T.F_less_of sc_less_of (fun _ _ _ _ _ _ us hl => match us, hl with | [_, _, _, _, _], _ => rfl) (fun f cdv A outer s H E hr => ?_)
  have hr1 : Room 1 _ := hr.mono (by decide)
  exact s_cons (s_par (i := 5) (j := 6) (ka := .own (lDisp (aNil))) (kb := .val (eDT (dCompT (iKyT 0) (asgN 7) (bOf (eOp oNe (ePeek 7) (ePeek 1))) (eVar 7) (eOp oDxT (ePeek 0) (ePeek 7)) [7]))) sc_less_of.nd (k_own (d_lst (a_nil))) (k_val (d_giveDT (d_dcKTT 0 (u0 hr) rfl sc_less_of.nd (blkOk_by (own := [("key", 7)]) (by first | (show blkC ["row", "mark", "own", "wait", "some", "found", "left", "key", "one"] (defScope s_less_of) _ _ = true; decide +kernel) | kernel_rfl | rfl)) (fun _ _ _ _ _ => t_name (i := 7) sc_less_of.nd) (gok_name 7) (by decide) (fun _ _ _ _ _ => pts_oneT (d_testC (d_peek (d_ne hr.units (d_look 7) (d_look 1))))) (fun _ _ _ _ _ => d_var 7) (fun _ _ _ _ _ => d_dxT (u1 hr) (d_look 0) (d_look 7))))))
      (s_cons (s_for PassesOwn.never rfl (i_seq (d_var 4)) (t_name (i := 8) sc_less_of.nd) (gok_name 8)
      (s_one (s_if (d_test (d_peek (c_call (ok_is_within_t T) hr1 (a_cons (d_giveDT (d_dcKTT 8 (u0 hr) rfl sc_less_of.nd (blkOk_by (own := [("key", 7)]) (by first | (show blkC ["row", "mark", "own", "wait", "some", "found", "left", "key", "one"] (defScope s_less_of) _ _ = true; decide +kernel) | kernel_rfl | rfl)) (fun _ _ _ _ _ => t_name (i := 7) sc_less_of.nd) (gok_name 7) (by decide) (fun _ _ _ _ _ => pts_oneT (d_testC (d_peek (d_ne hr.units (d_look 7) (d_look 2))))) (fun _ _ _ _ _ => d_var 7) (fun _ _ _ _ _ => d_dxT (u1 hr) (d_look 8) (d_look 7)))) (a_cons (d_var 6) (a_nil))))))
      (s_one (s_if (w_pt (w_or (d_testC (d_peek (d_ninKT (u1 hr) (d_look 2) (d_look 8)))) (w_or1 (w_pt (w_and (d_testC (d_peek (d_inKT (u1 hr) (d_look 2) (d_look 6)))) (w_and1 (d_testC (d_peek (d_le (d_peek (d_dxT (u1 hr) (d_look 8) (d_look 2))) (d_peek (d_dxT (u1 hr) (d_look 6) (d_look 2))))))))))))
      (s_one (s_app (i := 5) (d_non)))
      (s_one (s_if (d_testC (d_peek (d_le (d_peek (d_dxT (u1 hr) (d_look 8) (d_look 2))) (d_look 3))))
      (s_one (s_app (i := 5) (d_sub (d_look 3) (d_peek (d_dxT (u1 hr) (d_look 8) (d_look 2))))))
      (s_nil)))))
      (s_nil))))
      (s_one (s_frz 5 (s_ret (c_call (ok_most_or_none T) hr1 (a_cons (d_var 5) (a_nil)))))))
/-! ### more_of -/
def b_more_of : SS := sSeq (sOwn 5 (lDisp (aNil)))
  (sSeq (sFor (iSeq (eVar 4)) (asgN 6)
  (sIf (bOf (eCall m_is_within_t [] (aCons (eDT (dCompT (iKyT 6) (asgN 7) (bOf (eOp oNe (ePeek 7) (ePeek 1))) (eVar 7) (eOp oDxT (ePeek 6) (ePeek 7)) [7])) (aCons (eVar 0) (aNil)))))
  (sIf (bOf (eOp (oInKT true) (ePeek 1) (ePeek 6)))
  (sApp 5 (eC .non))
  (sIf (bAnd (bOf (eOp (oInKT false) (ePeek 2) (ePeek 0))) (bOf (eOp oGe (eOp oDxT (ePeek 0) (ePeek 2)) (ePeek 3))))
  (sApp 5 (eOp oSub (eOp oDxT (ePeek 0) (ePeek 2)) (ePeek 3)))
  (sNil)))
  (sNil)))
  (sFrz 5 (sRet (eCall m_most_or_none [] (aCons (eVar 5) (aNil))))))
def m_more_of : FM := fnM 5 8 b_more_of
theorem sc_more_of : FnScope ["row", "mark", "own", "wait", "some", "found", "one", "key"] ["row", "mark", "own", "wait", "some"] (defScope s_more_of) := ⟨rfl, rfl, rfl, by decide +kernel, rfl, by decide +kernel, by decide +kernel⟩
theorem ok_more_of (T : Txt0 K mg C_Rule) : OkF P w K mg base 2 "more_of" ["row", "mark", "own", "wait", "some"] m_more_of := by
  refine okF_mk (nm := ["row", "mark", "own", "wait", "some", "found", "one", "key"]) T.F_more_of sc_more_of (fun _ _ _ _ _ _ us hl => match us, hl with | [_, _, _, _, _], _ => rfl) (fun f cdv A outer s H E hr => ?_)
  have hr1 : Room 1 _ := hr.mono (by decide)
  exact s_cons (s_own (i := 5) sc_more_of.nd (d_lst (a_nil)))
      (s_cons (s_for PassesOwn.never rfl (i_seq (d_var 4)) (t_name (i := 6) sc_more_of.nd) (gok_name 6)
      (s_one (s_if (d_test (d_peek (c_call (ok_is_within_t T) hr1 (a_cons (d_giveDT (d_dcKTT 6 (u0 hr) rfl sc_more_of.nd (blkOk_by (own := [("key", 7)]) (by first | (show blkC ["row", "mark", "own", "wait", "some", "found", "one", "key"] (defScope s_more_of) _ _ = true; decide +kernel) | kernel_rfl | rfl)) (fun _ _ _ _ _ => t_name (i := 7) sc_more_of.nd) (gok_name 7) (by decide) (fun _ _ _ _ _ => pts_oneT (d_testC (d_peek (d_ne hr.units (d_look 7) (d_look 1))))) (fun _ _ _ _ _ => d_var 7) (fun _ _ _ _ _ => d_dxT (u1 hr) (d_look 6) (d_look 7)))) (a_cons (d_var 0) (a_nil))))))
      (s_one (s_if (d_testC (d_peek (d_ninKT (u1 hr) (d_look 1) (d_look 6))))
      (s_one (s_app (i := 5) (d_non)))
      (s_one (s_if (w_pt (w_and (d_testC (d_peek (d_inKT (u1 hr) (d_look 2) (d_look 0)))) (w_and1 (d_testC (d_peek (d_ge (d_peek (d_dxT (u1 hr) (d_look 0) (d_look 2))) (d_look 3)))))))
      (s_one (s_app (i := 5) (d_sub (d_peek (d_dxT (u1 hr) (d_look 0) (d_look 2))) (d_look 3))))
      (s_nil)))))
      (s_nil))))
      (s_one (s_frz 5 (s_ret (c_call (ok_most_or_none T) hr1 (a_cons (d_var 5) (a_nil)))))))
/-! ### least_or_none -/
def b_least_or_none : SS := sSeq (sSet 1 (eL (lComp (iSeq (eVar 0)) (asgN 2) (bOf (eOp oNotN (ePeek 2) (eC .non))) (eVar 2) [2])))
  (sRet (eIf (bOf (eOp oNe (ePeek 1) (eL (lDisp (aNil))))) (eBi gMin (aCons (ePeek 1) (aNil))) (eC .non)))
def m_least_or_none : FM := fnM 1 3 b_least_or_none
theorem sc_least_or_none : FnScope ["numbers", "found", "number"] ["numbers"] (defScope s_least_or_none) := ⟨rfl, rfl, rfl, by decide +kernel, rfl, by decide +kernel, by decide +kernel⟩
theorem ok_least_or_none (T : Txt0 K mg C_Rule) : OkF P w K mg base 1 "least_or_none" ["numbers"] m_least_or_none := by
  refine okF_mk (nm := ["numbers", "found", "number"]) T.F_least_or_none sc_least_or_none (fun _ _ _ _ _ _ us hl => match us, hl with | [_], _ => rfl) (fun f cdv A outer s H E hr => ?_)
  exact s_cons (s_lc (i := 1) rfl sc_least_or_none.nd rfl rfl (sw_true rfl rfl rfl (by decide +kernel)) (i_seq (d_var 0)) (blkOk_by (own := [("number", 2)]) (by first | (show blkC ["numbers", "found", "number"] (defScope s_least_or_none) _ _ = true; decide +kernel) | kernel_rfl | rfl)) (fun _ _ _ _ _ => t_name (i := 2) sc_least_or_none.nd) (gok_name 2) (by decide) (fun _ _ _ _ _ => pts_oneT (d_testC (d_peek (d_notN (d_look 2) (d_peek (d_non)))))) (fun _ _ _ _ _ => d_var 2))
      (s_one (s_ret (d_if (d_testC (d_peek (d_ne hr.units (d_look 1) (d_peek (d_give (d_lst (a_nil))))))) (d_min rfl (T.n_min) (p_cons (d_look 1) (p_nil))) (d_non))))
/-! ### slack_of -/
def b_slack_of : SS := sSeq (sUnp [3, 4] (eTup (aCons (eTup (aCons (eC (.str "now")) (aCons (eOp oIx (ePeek 2) (eC (.int 1))) (aNil)))) (aCons (eTup (aCons (eC (.str "of")) (aCons (eOp oIx (ePeek 2) (eC (.int 1))) (aNil)))) (aNil)))))
  (sSeq (sSet 5 (eCall m_letter_rows [] (aCons (eFld "Rule" "form" (ePeek 0)) (aNil))))
  (sSeq (sSet 6 (eCall m_letter_rows [] (aCons (eCall m_marked_term [] (aCons (eFld "Rule" "form" (ePeek 0)) (aCons (eVar 1) (aNil)))) (aNil))))
  (sSeq (sSet 7 (eL (lComp (iSeq (eVar 6)) (asgN 8) (bOf (eOp (oInKT false) (ePeek 3) (ePeek 8))) (eCall m_less_of [] (aCons (eVar 8) (aCons (eVar 3) (aCons (eVar 4) (aCons (eOp oIx (ePeek 2) (eC (.int 2))) (aCons (eVar 5) (aNil))))))) [8])))
  (sSeq (sSet 9 (eL (lComp (iSeq (eVar 5)) (asgN 8) (bYes) (eCall m_more_of [] (aCons (eVar 8) (aCons (eVar 3) (aCons (eVar 4) (aCons (eOp oIx (ePeek 2) (eC (.int 2))) (aCons (eVar 6) (aNil))))))) [8])))
  (sRet (eTup (aCons (eVar 1) (aCons (eCall m_least_or_none [] (aCons (eVar 7) (aNil))) (aCons (eCall m_least_or_none [] (aCons (eVar 9) (aNil))) (aNil))))))))))
def m_slack_of : FM := fnM 3 10 b_slack_of
theorem sc_slack_of : FnScope ["rule", "path", "part", "mark", "own", "some", "marked", "less", "row", "more"] ["rule", "path", "part"] (defScope s_slack_of) := ⟨rfl, rfl, rfl, by decide +kernel, rfl, by decide +kernel, by decide +kernel⟩
theorem ok_slack_of (T : Txt0 K mg C_Rule) : OkF P w K mg base 18 "slack_of" ["rule", "path", "part"] m_slack_of := by
  refine okF_mk (nm := ["rule", "path", "part", "mark", "own", "some", "marked", "less", "row", "more"]) T.F_slack_of sc_slack_of (fun _ _ _ _ _ _ us hl => match us, hl with | [_, _, _], _ => rfl) (fun f cdv A outer s H E hr => ?_)
  have hr1 : Room 1 _ := hr.mono (by decide)
  have hr2 : Room 2 _ := hr.mono (by decide)
  have hr12 : Room 12 _ := hr.mono (by decide)
  have hr17 : Room 17 _ := hr.mono (by decide)
  exact s_cons (s_unp (is := [3, 4]) rfl (d_tup (a_cons (d_tup (a_cons (d_str) (a_cons (d_ix (d_look 2) (d_peek (d_int))) (a_nil)))) (a_cons (d_tup (a_cons (d_str) (a_cons (d_ix (d_look 2) (d_peek (d_int))) (a_nil)))) (a_nil)))) (g_cons (i := 3) sc_slack_of.nd (g_cons (i := 4) sc_slack_of.nd (g_nil))))
      (s_cons (s_set (i := 5) sc_slack_of.nd (c_call (ok_letter_rows T) hr17 (a_cons (d_fld (d_look 0) T.c_Rule T.k_Rule T.a_Rule_form) (a_nil))))
      (s_cons (s_set (i := 6) sc_slack_of.nd (c_call (ok_letter_rows T) hr17 (a_cons (c_call (ok_marked_term T) hr12 (a_cons (d_fld (d_look 0) T.c_Rule T.k_Rule T.a_Rule_form) (a_cons (d_var 1) (a_nil)))) (a_nil))))
      (s_cons (s_lc (i := 7) rfl sc_slack_of.nd rfl rfl (sw_true rfl rfl rfl (by decide +kernel)) (i_seq (d_var 6)) (blkOk_by (own := [("row", 8)]) (by first | (show blkC ["rule", "path", "part", "mark", "own", "some", "marked", "less", "row", "more"] (defScope s_slack_of) _ _ = true; decide +kernel) | kernel_rfl | rfl)) (fun _ _ _ _ _ => t_name (i := 8) sc_slack_of.nd) (gok_name 8) (by decide) (fun _ _ _ _ _ => pts_oneT (d_testC (d_peek (d_inKT (u1 hr) (d_look 3) (d_look 8))))) (fun _ _ _ _ _ => c_call (ok_less_of T) hr2 (a_cons (d_var 8) (a_cons (d_var 3) (a_cons (d_var 4) (a_cons (d_ix (d_look 2) (d_peek (d_int))) (a_cons (d_var 5) (a_nil))))))))
      (s_cons (s_lc (i := 9) rfl sc_slack_of.nd rfl rfl (sw_true rfl rfl rfl (by decide +kernel)) (i_seq (d_var 5)) (blkOk_by (own := [("row", 8)]) (by first | (show blkC ["rule", "path", "part", "mark", "own", "some", "marked", "less", "row", "more"] (defScope s_slack_of) _ _ = true; decide +kernel) | kernel_rfl | rfl)) (fun _ _ _ _ _ => t_name (i := 8) sc_slack_of.nd) (gok_name 8) (by decide) (fun _ _ _ _ _ => pts_nilT) (fun _ _ _ _ _ => c_call (ok_more_of T) hr2 (a_cons (d_var 8) (a_cons (d_var 3) (a_cons (d_var 4) (a_cons (d_ix (d_look 2) (d_peek (d_int))) (a_cons (d_var 6) (a_nil))))))))
      (s_one (s_ret (d_tup (a_cons (d_var 1) (a_cons (c_call (ok_least_or_none T) hr1 (a_cons (d_var 7) (a_nil))) (a_cons (c_call (ok_least_or_none T) hr1 (a_cons (d_var 9) (a_nil))) (a_nil)))))))))))
/-! ### slack -/
def b_slack : SS := sSeq (sDrop (eCall m_check_flat [] (aCons (eVar 0) (aNil))))
  (sRet (eL (lComp (iSeq (eCall m_parts_from [] (aCons (eFld "Rule" "form" (ePeek 0)) (aCons (eTup (aNil)) (aNil))))) (asgT [1, 2]) (bYes) (eCall m_slack_of [] (aCons (eVar 0) (aCons (eVar 1) (aCons (eVar 2) (aNil))))) [1, 2])))
def m_slack : FM := fnM 1 3 b_slack
theorem sc_slack : FnScope ["rule", "path", "part"] ["rule"] (defScope s_slack) := ⟨rfl, rfl, rfl, by decide +kernel, rfl, by decide +kernel, by decide +kernel⟩
theorem okk_slack (T : Txt0 K mg C_Rule) : OkFK P w K mg base 19 "slack" ["rule"] ["rule"] (fun l => l) m_slack := by
  refine okFK_mk (nm := ["rule", "path", "part"]) pm_id T.F_slack sc_slack (fun _ _ _ _ _ _ ws hl => match ws, hl with | [_], _ => rfl) (fun f cdv A outer s H E hr => ?_)
  have hr13 : Room 13 _ := hr.mono (by decide)
  have hr15 : Room 15 _ := hr.mono (by decide)
  have hr18 : Room 18 _ := hr.mono (by decide)
  exact s_cons (s_drop (d_peek (c_call (ok_check_flat T) hr15 (a_cons (d_var 0) (a_nil)))))
      (s_one (s_ret (d_give (d_lc rfl sc_slack.nd (i_seq (c_call (ok_parts_from T) hr13 (a_cons (d_fld (d_look 0) T.c_Rule T.k_Rule T.a_Rule_form) (a_cons (d_tup (a_nil)) (a_nil))))) (blkOk_by (own := [("path", 1), ("part", 2)]) (by first | (show blkC ["rule", "path", "part"] (defScope s_slack) _ _ = true; decide +kernel) | kernel_rfl | rfl)) (fun _ _ _ _ _ => t_tup rfl (g_cons (i := 1) sc_slack.nd (g_cons (i := 2) sc_slack.nd (g_nil))) (n := 2)) (gok_tup [1, 2] 2 rfl) (by decide) (fun _ _ _ _ _ => pts_nilT) (fun _ _ _ _ _ => c_call (ok_slack_of T) hr18 (a_cons (d_var 0) (a_cons (d_var 1) (a_cons (d_var 2) (a_nil)))))))))
/-! ### check_hours -/
def b_check_hours : SS := sIf (bOr (bNot (bOf (eCall m_is_hours [] (aCons (eVar 0) (aNil))))) (bOf (eOp oNe (eL (lComp (iSeq (eVar 1)) (asgN 2) (bOf (eOp (oInK true) (ePeek 2) (ePeek 0))) (eVar 2) [2])) (eL (lDisp (aNil))))))
  (sNever)
  (sNil)
def m_check_hours : FM := fnM 2 3 b_check_hours
theorem sc_check_hours : FnScope ["value", "names", "name"] ["value", "names"] (defScope s_check_hours) := ⟨rfl, rfl, rfl, by decide +kernel, rfl, by decide +kernel, by decide +kernel⟩
theorem ok_check_hours (T : Txt0 K mg C_Rule) : OkF P w K mg base 3 "check_hours" ["value", "names"] m_check_hours := by
  refine okF_mk (nm := ["value", "names", "name"]) T.F_check_hours sc_check_hours (fun _ _ _ _ _ _ us hl => match us, hl with | [_, _], _ => rfl) (fun f cdv A outer s H E hr => ?_)
  have hr2 : Room 2 _ := hr.mono (by decide)
  exact s_one (s_if (w_pt (w_or (d_not (d_test (d_peek (c_call (ok_is_hours T) hr2 (a_cons (d_var 0) (a_nil)))))) (w_or1 (d_testC (d_peek (d_ne hr.units (d_peek (d_give (d_lc rfl sc_check_hours.nd (i_seq (d_var 1)) (blkOk_by (own := [("name", 2)]) (by first | (show blkC ["value", "names", "name"] (defScope s_check_hours) _ _ = true; decide +kernel) | kernel_rfl | rfl)) (fun _ _ _ _ _ => t_name (i := 2) sc_check_hours.nd) (gok_name 2) (by decide) (fun _ _ _ _ _ => pts_oneT (d_testC (d_peek (d_ninK (u1 hr) (d_look 2) (d_look 0))))) (fun _ _ _ _ _ => d_var 2)))) (d_peek (d_give (d_lst (a_nil))))))))))
      (s_one (s_never))
      (s_nil))
/-! ### telling -/
def b_telling : SS := sSeq (sDrop (eCall m_check_flat [] (aCons (eVar 0) (aNil))))
  (sSeq (sDrop (eCall m_check_hours [] (aCons (eVar 1) (aCons (eCall m_names_by [] (aCons (eFld "Rule" "form" (ePeek 0)) (aCons (eC (.str "of")) (aNil)))) (aNil)))))
  (sSeq (sSet 2 (eCall m_canonical [] (aCons (eVar 0) (aNil))))
  (sSeq (sSet 3 (eCall m_least_hour [] (aCons (eVar 2) (aCons (eVar 1) (aNil)))))
  (sRet (eL (lComp (iSeq (eVar 2)) (asgN 4) (bOf (eOp oEq (eCall m_row_hour [] (aCons (eVar 4) (aCons (eVar 1) (aNil)))) (ePeek 3))) (eCall m_row_of [] (aCons (eVar 4) (aNil))) [4]))))))
def m_telling : FM := fnM 2 5 b_telling
theorem sc_telling : FnScope ["rule", "hours", "some", "hour", "row"] ["rule", "hours"] (defScope s_telling) := ⟨rfl, rfl, rfl, by decide +kernel, rfl, by decide +kernel, by decide +kernel⟩
theorem okk_telling (T : Txt0 K mg C_Rule) : OkFK P w K mg base 20 "telling" ["rule", "hours"] ["hours", "rule"] List.reverse m_telling := by
  refine okFK_mk (nm := ["rule", "hours", "some", "hour", "row"]) pm_rv T.F_telling sc_telling (fun _ _ _ _ _ _ ws hl => match ws, hl with | [_, _], _ => rfl) (fun f cdv A outer s H E hr => ?_)
  have hr1 : Room 1 _ := hr.mono (by decide)
  have hr2 : Room 2 _ := hr.mono (by decide)
  have hr3 : Room 3 _ := hr.mono (by decide)
  have hr14 : Room 14 _ := hr.mono (by decide)
  have hr15 : Room 15 _ := hr.mono (by decide)
  have hr19 : Room 19 _ := hr.mono (by decide)
  exact s_cons (s_drop (d_peek (c_call (ok_check_flat T) hr15 (a_cons (d_var 0) (a_nil)))))
      (s_cons (s_drop (d_peek (c_call (ok_check_hours T) hr3 (a_cons (d_var 1) (a_cons (c_call (ok_names_by T) hr14 (a_cons (d_fld (d_look 0) T.c_Rule T.k_Rule T.a_Rule_form) (a_cons (d_str) (a_nil)))) (a_nil))))))
      (s_cons (s_set (i := 2) sc_telling.nd (c_call (ok_canonical T) hr19 (a_cons (d_var 0) (a_nil))))
      (s_cons (s_set (i := 3) sc_telling.nd (c_call (ok_least_hour T) hr2 (a_cons (d_var 2) (a_cons (d_var 1) (a_nil)))))
      (s_one (s_ret (d_give (d_lc rfl sc_telling.nd (i_seq (d_var 2)) (blkOk_by (own := [("row", 4)]) (by first | (show blkC ["rule", "hours", "some", "hour", "row"] (defScope s_telling) _ _ = true; decide +kernel) | kernel_rfl | rfl)) (fun _ _ _ _ _ => t_name (i := 4) sc_telling.nd) (gok_name 4) (by decide) (fun _ _ _ _ _ => pts_oneT (d_testC (d_peek (d_eq hr.units (d_peek (c_call (ok_row_hour T) hr1 (a_cons (d_var 4) (a_cons (d_var 1) (a_nil))))) (d_look 3))))) (fun _ _ _ _ _ => c_call (ok_row_of T) hr1 (a_cons (d_var 4) (a_nil))))))))))
/-! ### alone -/
def b_alone : SS := sSeq (sDrop (eCall m_check_flat [] (aCons (eVar 0) (aNil))))
  (sSeq (sSet 2 (eCall m_canonical [] (aCons (eVar 0) (aNil))))
  (sSeq (sIf (bOr (bNot (bOf (eCall m_is_row [] (aCons (eVar 1) (aNil))))) (bOf (eOp (oInLD true) (eCall m_dict_of [] (aCons (eVar 1) (aNil))) (ePeek 2))))
  (sNever)
  (sNil))
  (sRet (eCall m_hours_for [] (aCons (eCall m_dict_of [] (aCons (eVar 1) (aNil))) (aCons (eCall m_names_by [] (aCons (eFld "Rule" "form" (ePeek 0)) (aCons (eC (.str "of")) (aNil)))) (aCons (eCall m_far_hour [] (aCons (eL (lDisp (aCons (eVar 2) (aNil)))) (aNil))) (aNil))))))))
def m_alone : FM := fnM 2 3 b_alone
theorem sc_alone : FnScope ["rule", "row", "some"] ["rule", "row"] (defScope s_alone) := ⟨rfl, rfl, rfl, by decide +kernel, rfl, by decide +kernel, by decide +kernel⟩
theorem okk_alone (T : Txt0 K mg C_Rule) : OkFK P w K mg base 20 "alone" ["rule", "row"] ["row", "rule"] List.reverse m_alone := by
  refine okFK_mk (nm := ["rule", "row", "some"]) pm_rv T.F_alone sc_alone (fun _ _ _ _ _ _ ws hl => match ws, hl with | [_, _], _ => rfl) (fun f cdv A outer s H E hr => ?_)
  have hr1 : Room 1 _ := hr.mono (by decide)
  have hr2 : Room 2 _ := hr.mono (by decide)
  have hr14 : Room 14 _ := hr.mono (by decide)
  have hr15 : Room 15 _ := hr.mono (by decide)
  have hr19 : Room 19 _ := hr.mono (by decide)
  exact s_cons (s_drop (d_peek (c_call (ok_check_flat T) hr15 (a_cons (d_var 0) (a_nil)))))
      (s_cons (s_set (i := 2) sc_alone.nd (c_call (ok_canonical T) hr19 (a_cons (d_var 0) (a_nil))))
      (s_cons (s_if (w_pt (w_or (d_not (d_test (d_peek (c_call (ok_is_row T) hr2 (a_cons (d_var 1) (a_nil)))))) (w_or1 (d_testC (d_peek (d_ninLD (u65 hr) (d_peek (c_call (ok_dict_of T) hr1 (a_cons (d_var 1) (a_nil)))) (d_look 2)))))))
      (s_one (s_never))
      (s_nil))
      (s_one (s_ret (c_call (ok_hours_for T) hr1 (a_cons (c_call (ok_dict_of T) hr1 (a_cons (d_var 1) (a_nil))) (a_cons (c_call (ok_names_by T) hr14 (a_cons (d_fld (d_look 0) T.c_Rule T.k_Rule T.a_Rule_form) (a_cons (d_str) (a_nil)))) (a_cons (c_call (ok_far_hour T) hr1 (a_cons (d_give (d_lst (a_cons (d_var 2) (a_nil)))) (a_nil))) (a_nil)))))))))
/-! ### _law_right -/
def b__law_right : SS := sSeq (sPar 1 2 (.val (eMake "Rule" m_Rule___init__ [] (aCons (eTup (aCons (eC (.str "last")) (aCons (eL (lDisp (aCons (eTup (aCons (eC (.str "of")) (aCons (eC (.str "a")) (aCons (eOp oAdd (eC (.int 1)) (ePeek 0)) (aNil))))) (aCons (eTup (aCons (eC (.str "of")) (aCons (eC (.str "b")) (aCons (eVar 0) (aNil))))) (aNil))))) (aNil)))) (aNil)))) (.val (eMake "Rule" m_Rule___init__ [] (aCons (eTup (aCons (eC (.str "of")) (aCons (eC (.str "a")) (aCons (eVar 0) (aNil))))) (aNil)))))
  (sSeq (sSet 3 (eL (lDisp (aCons (eTup (aCons (eC (.str "a")) (aCons (eOp oAdd (eC (.int 1)) (ePeek 0)) (aNil)))) (aCons (eTup (aCons (eC (.str "b")) (aCons (eVar 0) (aNil)))) (aNil))))))
  (sSeq (sSet 4 (eL (lDisp (aCons (eCallP m_rows (fun l => l) (aCons (eVar 1) (aNil))) (aCons (eCallP m_matters (fun l => l) (aCons (eVar 1) (aNil))) (aCons (eCallP m_columns (fun l => l) (aCons (eVar 1) (aNil))) (aCons (eCallP m_never_behind List.reverse (aCons (eVar 1) (aCons (eVar 2) (aNil)))) (aNil))))))))
  (sSeq (sIf (bOf (eOp oNe (ePeek 4) (eL (lDisp (aCons (eL (lDisp (aCons (eVar 3) (aNil)))) (aCons (eL (lDisp (aCons (eC (.str "a")) (aCons (eC (.str "b")) (aNil))))) (aCons (eL (lDisp (aCons (eL (lDisp (aCons (eTup (aCons (eC (.str "a")) (aCons (eOp oAdd (eC (.int 1)) (ePeek 0)) (aNil)))) (aNil)))) (aCons (eL (lDisp (aCons (eTup (aCons (eC (.str "b")) (aCons (eVar 0) (aNil)))) (aNil)))) (aNil))))) (aCons (eC (.bl true)) (aNil)))))))))
  (sRet (eC (.bl false)))
  (sNil))
  (sSeq (sIf (bOr (bOf (eOwn "Rule" CS true m_Rule___eq__ (eCallP m_of_rows (fun l => l) (aCons (eL (lDisp (aCons (eVar 3) (aNil)))) (aNil))) (eVar 1))) (bOf (eOwn "Rule" CS true m_Rule___eq__ (eCallP m_of_columns (fun l => l) (aCons (eL (lDisp (aCons (eL (lDisp (aCons (eTup (aCons (eC (.str "a")) (aCons (eOp oAdd (eC (.int 1)) (ePeek 0)) (aNil)))) (aNil)))) (aCons (eL (lDisp (aCons (eTup (aCons (eC (.str "b")) (aCons (eVar 0) (aNil)))) (aNil)))) (aNil))))) (aNil))) (eVar 1))))
  (sRet (eC (.bl false)))
  (sNil))
  (sSeq (sIf (bOr (bOf (eCallP m_never_behind List.reverse (aCons (eVar 2) (aCons (eVar 1) (aNil))))) (bOr (bOf (eCallP m_alike List.reverse (aCons (eVar 2) (aCons (eVar 1) (aNil))))) (bNot (bOf (eCallP m_alike List.reverse (aCons (eVar 1) (aCons (eVar 1) (aNil))))))))
  (sRet (eC (.bl false)))
  (sNil))
  (sSeq (sSet 5 (eCallP m_parting List.reverse (aCons (eVar 2) (aCons (eVar 1) (aNil)))))
  (sSeq (sIf (bOr (bNot (bOf (eCallP m_check_parting List.reverse (aCons (eVar 5) (aCons (eVar 2) (aCons (eVar 1) (aNil))))))) (bOf (eOp oNotN (eCallP m_parting List.reverse (aCons (eVar 1) (aCons (eVar 1) (aNil)))) (eC .non))))
  (sRet (eC (.bl false)))
  (sNil))
  (sSeq (sSet 5 (eCallP m_reasons List.reverse (aCons (eVar 1) (aCons (eVar 2) (aNil)))))
  (sSeq (sIf (bOr (bOf (eOp oNe (ePeek 5) (eTup (aCons (eC (.str "never")) (aCons (eL (lDisp (aCons (eTup (aCons (eVar 3) (aCons (eL (lDisp (aCons (eTup (aCons (eC (.str "a")) (aCons (eVar 0) (aNil)))) (aNil)))) (aNil)))) (aNil)))) (aNil)))))) (bNot (bOf (eCallP m_is_reasons List.reverse (aCons (eVar 5) (aCons (eVar 1) (aCons (eVar 2) (aNil))))))))
  (sRet (eC (.bl false)))
  (sNil))
  (sSeq (sSet 5 (eCallP m_reasons List.reverse (aCons (eVar 2) (aCons (eVar 1) (aNil)))))
  (sSeq (sIf (bOr (bOf (eOp oNe (eOp oIx (ePeek 5) (eC (.int 0))) (eC (.str "behind")))) (bNot (bOf (eCallP m_is_reasons List.reverse (aCons (eVar 5) (aCons (eVar 2) (aCons (eVar 1) (aNil))))))))
  (sRet (eC (.bl false)))
  (sNil))
  (sSeq (sIf (bOr (bOf (eOp oNe (eCallP m_slack (fun l => l) (aCons (eVar 2) (aNil))) (eL (lDisp (aCons (eTup (aCons (eTup (aNil)) (aCons (eC (.int 0)) (aCons (eC (.int 0)) (aNil))))) (aNil)))))) (bOf (eOwn "Rule" CS true m_Rule___eq__ (eCallP m_lean (fun l => l) (aCons (eVar 2) (aNil))) (eVar 2))))
  (sRet (eC (.bl false)))
  (sNil))
  (sSeq (sIf (bOf (eOp oNe (eCallP m_telling List.reverse (aCons (eD (lDd [(eC (.str "a"), eC (.int 4)), (eC (.str "b"), eC (.int 5))])) (aCons (eVar 1) (aNil)))) (eL (lDisp (aCons (eVar 3) (aNil))))))
  (sRet (eC (.bl false)))
  (sNil))
  (sSeq (sSet 5 (eCallP m_alone List.reverse (aCons (eL (lDisp (aCons (eTup (aCons (eC (.str "a")) (aCons (eVar 0) (aNil)))) (aNil)))) (aCons (eVar 2) (aNil)))))
  (sRet (eAnd (eOp oEq (eL (eBi gSortD (aCons (ePeek 5) (aNil)))) (eL (lDisp (aCons (eC (.str "a")) (aNil))))) (eOp oEq (eL (eBi gSortD (aCons (eCallP m_alone List.reverse (aCons (eVar 3) (aCons (eVar 1) (aNil)))) (aNil)))) (eL (lDisp (aCons (eC (.str "a")) (aCons (eC (.str "b")) (aNil))))))))))))))))))))))
def m__law_right : FM := fnM 1 6 b__law_right
theorem sc__law_right : FnScope ["_law_by", "_law_late", "_law_soon", "_law_line", "_law_seen", "_law_found"] ["_law_by"] (defScope s__law_right) := ⟨rfl, rfl, rfl, by decide +kernel, rfl, by decide +kernel, by decide +kernel⟩
theorem ok__law_right (T : Txt0 K mg C_Rule) : OkF P w K mg base 28 "_law_right" ["_law_by"] m__law_right := by
  refine okF_mk (nm := ["_law_by", "_law_late", "_law_soon", "_law_line", "_law_seen", "_law_found"]) T.F__law_right sc__law_right (fun _ _ _ _ _ _ us hl => match us, hl with | [_], _ => rfl) (fun f cdv A outer s H E hr => ?_)
  have hr2 : Room 2 _ := hr.mono (by decide)
  have hr19 : Room 19 _ := hr.mono (by decide)
  have hr20 : Room 20 _ := hr.mono (by decide)
  have hr21 : Room 21 _ := hr.mono (by decide)
  have hr26 : Room 26 _ := hr.mono (by decide)
  have hr27 : Room 27 _ := hr.mono (by decide)
  exact s_cons (s_par (i := 1) (j := 2) (ka := .val (eMake "Rule" m_Rule___init__ [] (aCons (eTup (aCons (eC (.str "last")) (aCons (eL (lDisp (aCons (eTup (aCons (eC (.str "of")) (aCons (eC (.str "a")) (aCons (eOp oAdd (eC (.int 1)) (ePeek 0)) (aNil))))) (aCons (eTup (aCons (eC (.str "of")) (aCons (eC (.str "b")) (aCons (eVar 0) (aNil))))) (aNil))))) (aNil)))) (aNil)))) (kb := .val (eMake "Rule" m_Rule___init__ [] (aCons (eTup (aCons (eC (.str "of")) (aCons (eC (.str "a")) (aCons (eVar 0) (aNil))))) (aNil)))) sc__law_right.nd (k_val (c_make (ok_Rule___init__ T) T.c_Rule hr26 (a_cons (d_tup (a_cons (d_str) (a_cons (d_give (d_lst (a_cons (d_tup (a_cons (d_str) (a_cons (d_str) (a_cons (d_add (d_peek (d_int)) (d_look 0)) (a_nil))))) (a_cons (d_tup (a_cons (d_str) (a_cons (d_str) (a_cons (d_var 0) (a_nil))))) (a_nil))))) (a_nil)))) (a_nil)))) (k_val (c_make (ok_Rule___init__ T) T.c_Rule hr26 (a_cons (d_tup (a_cons (d_str) (a_cons (d_str) (a_cons (d_var 0) (a_nil))))) (a_nil)))))
      (s_cons (s_set (i := 3) sc__law_right.nd (d_give (d_lst (a_cons (d_tup (a_cons (d_str) (a_cons (d_add (d_peek (d_int)) (d_look 0)) (a_nil)))) (a_cons (d_tup (a_cons (d_str) (a_cons (d_var 0) (a_nil)))) (a_nil))))))
      (s_cons (s_set (i := 4) sc__law_right.nd (d_give (d_lst (a_cons (c_callK (okk_rows T) hr20 (k_cons (d_var 1) (k_nil))) (a_cons (c_callK (okk_matters T) hr20 (k_cons (d_var 1) (k_nil))) (a_cons (c_callK (okk_columns T) hr19 (k_cons (d_var 1) (k_nil))) (a_cons (c_callK (okk_never_behind T) hr20 (k_cons (d_var 1) (k_cons (d_var 2) (k_nil)))) (a_nil))))))))
      (s_cons (s_if (d_testC (d_peek (d_ne hr.units (d_look 4) (d_peek (d_give (d_lst (a_cons (d_give (d_lst (a_cons (d_var 3) (a_nil)))) (a_cons (d_give (d_lst (a_cons (d_str) (a_cons (d_str) (a_nil))))) (a_cons (d_give (d_lst (a_cons (d_give (d_lst (a_cons (d_tup (a_cons (d_str) (a_cons (d_add (d_peek (d_int)) (d_look 0)) (a_nil)))) (a_nil)))) (a_cons (d_give (d_lst (a_cons (d_tup (a_cons (d_str) (a_cons (d_var 0) (a_nil)))) (a_nil)))) (a_nil))))) (a_cons (d_bl) (a_nil)))))))))))
      (s_one (s_ret (d_bl)))
      (s_nil))
      (s_cons (s_if (w_pt (w_or (d_testC (d_peek (c_ne (eq_Rule T) T.c_Rule hr2 (c_callK (okk_of_rows T) hr27 (k_cons (d_give (d_lst (a_cons (d_var 3) (a_nil)))) (k_nil))) (d_var 1)))) (w_or1 (d_testC (d_peek (c_ne (eq_Rule T) T.c_Rule hr2 (c_callK (okk_of_columns T) hr27 (k_cons (d_give (d_lst (a_cons (d_give (d_lst (a_cons (d_tup (a_cons (d_str) (a_cons (d_add (d_peek (d_int)) (d_look 0)) (a_nil)))) (a_nil)))) (a_cons (d_give (d_lst (a_cons (d_tup (a_cons (d_str) (a_cons (d_var 0) (a_nil)))) (a_nil)))) (a_nil))))) (k_nil))) (d_var 1)))))))
      (s_one (s_ret (d_bl)))
      (s_nil))
      (s_cons (s_if (w_pt (w_or (d_test (d_peek (c_callK (okk_never_behind T) hr20 (k_cons (d_var 2) (k_cons (d_var 1) (k_nil)))))) (w_or (d_test (d_peek (c_callK (okk_alike T) hr20 (k_cons (d_var 2) (k_cons (d_var 1) (k_nil)))))) (w_or1 (d_not (d_test (d_peek (c_callK (okk_alike T) hr20 (k_cons (d_var 1) (k_cons (d_var 1) (k_nil)))))))))))
      (s_one (s_ret (d_bl)))
      (s_nil))
      (s_cons (s_set (i := 5) sc__law_right.nd (c_callK (okk_parting T) hr21 (k_cons (d_var 2) (k_cons (d_var 1) (k_nil)))))
      (s_cons (s_if (w_pt (w_or (d_not (d_test (d_peek (c_callK (okk_check_parting T) hr21 (k_cons (d_var 5) (k_cons (d_var 2) (k_cons (d_var 1) (k_nil)))))))) (w_or1 (d_testC (d_peek (d_notN (d_peek (c_callK (okk_parting T) hr21 (k_cons (d_var 1) (k_cons (d_var 1) (k_nil))))) (d_peek (d_non))))))))
      (s_one (s_ret (d_bl)))
      (s_nil))
      (s_cons (s_set (i := 5) sc__law_right.nd (c_callK (okk_reasons T) hr21 (k_cons (d_var 1) (k_cons (d_var 2) (k_nil)))))
      (s_cons (s_if (w_pt (w_or (d_testC (d_peek (d_ne hr.units (d_look 5) (d_peek (d_tup (a_cons (d_str) (a_cons (d_give (d_lst (a_cons (d_tup (a_cons (d_var 3) (a_cons (d_give (d_lst (a_cons (d_tup (a_cons (d_str) (a_cons (d_var 0) (a_nil)))) (a_nil)))) (a_nil)))) (a_nil)))) (a_nil)))))))) (w_or1 (d_not (d_test (d_peek (c_callK (okk_is_reasons T) hr21 (k_cons (d_var 5) (k_cons (d_var 1) (k_cons (d_var 2) (k_nil)))))))))))
      (s_one (s_ret (d_bl)))
      (s_nil))
      (s_cons (s_set (i := 5) sc__law_right.nd (c_callK (okk_reasons T) hr21 (k_cons (d_var 2) (k_cons (d_var 1) (k_nil)))))
      (s_cons (s_if (w_pt (w_or (d_testC (d_peek (d_ne hr.units (d_peek (d_ix (d_look 5) (d_peek (d_int)))) (d_peek (d_str))))) (w_or1 (d_not (d_test (d_peek (c_callK (okk_is_reasons T) hr21 (k_cons (d_var 5) (k_cons (d_var 2) (k_cons (d_var 1) (k_nil)))))))))))
      (s_one (s_ret (d_bl)))
      (s_nil))
      (s_cons (s_if (w_pt (w_or (d_testC (d_peek (d_ne hr.units (d_peek (c_callK (okk_slack T) hr19 (k_cons (d_var 2) (k_nil)))) (d_peek (d_give (d_lst (a_cons (d_tup (a_cons (d_tup (a_nil)) (a_cons (d_int) (a_cons (d_int) (a_nil))))) (a_nil)))))))) (w_or1 (d_testC (d_peek (c_ne (eq_Rule T) T.c_Rule hr2 (c_callK (okk_lean T) hr27 (k_cons (d_var 2) (k_nil))) (d_var 2)))))))
      (s_one (s_ret (d_bl)))
      (s_nil))
      (s_cons (s_if (d_testC (d_peek (d_ne hr.units (d_peek (c_callK (okk_telling T) hr20 (k_cons (d_giveD (d_disp (dd_cons (d_str) (d_int) (dd_cons (d_str) (d_int) (dd_nil))))) (k_cons (d_var 1) (k_nil))))) (d_peek (d_give (d_lst (a_cons (d_var 3) (a_nil))))))))
      (s_one (s_ret (d_bl)))
      (s_nil))
      (s_cons (s_set (i := 5) sc__law_right.nd (c_callK (okk_alone T) hr20 (k_cons (d_give (d_lst (a_cons (d_tup (a_cons (d_str) (a_cons (d_var 0) (a_nil)))) (a_nil)))) (k_cons (d_var 2) (k_nil)))))
      (s_one (s_ret (v_and (d_peek (d_eq hr.units (d_peek (d_give (d_sortD rfl T.n_sorted (p_cons (d_look 5) (p_nil))))) (d_peek (d_give (d_lst (a_cons (d_str) (a_nil))))))) (v_one (d_eq hr.units (d_peek (d_give (d_sortD rfl T.n_sorted (p_cons (d_peek (c_callK (okk_alone T) hr20 (k_cons (d_var 3) (k_cons (d_var 1) (k_nil))))) (p_nil))))) (d_peek (d_give (d_lst (a_cons (d_str) (a_cons (d_str) (a_nil)))))))))))))))))))))))))
/-! ### law -/
def b_law : SS := sRet (eCall m__law_right [] (aCons (eOp oSub (eOp oMod (eBi gSum (aCons (eL (eSl slL (ePeek 0) (oNone) (oSome (eC (.int 1))))) (aNil))) (eOp oPow (eC (.int 10)) (eC (.int 9)))) (eC (.int 3))) (aNil)))
def m_law : FM := fnM 1 1 b_law
theorem sc_law : FnScope ["_law_script"] ["_law_script"] (defScope s_law) := ⟨rfl, rfl, rfl, by decide +kernel, rfl, by decide +kernel, by decide +kernel⟩
theorem fn_law {fa : Addr} (T : Txt0 K mg C_Rule) (hfa : mg "law" = some (.ref fa)) : ∃ fd : FuncData, (∀ (s : Shared) (u : Value), BindsTo s fd ⟨[u], []⟩ [("_law_script", u)]) ∧ ∀ base : Heap, FnD P w K mg base 29 fa fd ["_law_script"] (spM ⟨mg, K⟩ m_law 1) := by
  refine fn_end (nm := ["_law_script"]) T.F_law hfa sc_law (fun _ _ _ _ _ _ _ => rfl) (fun base f cdv A outer s H E hr hgd => ?_)
  have hr28 : Room 28 _ := hr.mono (by decide)
  exact s_one (s_ret (c_call (ok__law_right T) hr28 (a_cons (d_sub (d_peek (d_mod (d_peek (d_sum rfl (T.n_sum) (p_cons (d_peek (d_give (d_slL (d_look 0) (o_none) (o_some (d_peek (d_int)))))) (p_nil)))) (d_peek (d_pow (d_peek (d_int)) (d_peek (d_int)))))) (d_peek (d_int))) (a_nil))))
theorem end_mk {h : Heap} {fa : Addr} (X : K.In h) (G : h.Ns mainGlobals mg) (hfa : mg "law" = some (.ref fa)) (a0 : PySem.W.nsIn K mainGlobals "Rule" = some (some (.ref C_Rule))) (T : Txt0 K mg C_Rule) :
    ∃ fd : FuncData, (∀ (s : Shared) (u : Value), BindsTo s fd ⟨[u], []⟩ [("_law_script", u)]) ∧ ∀ base : Heap, K.In base → base.Ns mainGlobals mg → FnD P w K mg base 29 fa fd ["_law_script"] (spM ⟨mg, K⟩ m_law 1) := by
  obtain ⟨fd, hb, hF⟩ := fn_law (P := P) (w := w) T hfa
  exact ⟨fd, hb, fun base _ _ => hF base⟩
end
end K14

namespace K14
open PySem L2 LW PyProof.Rows
theorem htxt {K : PySem.W.Frag} {h : Heap} {mg : PySem.Str → Option Value} (X : K.In h) (G : h.Ns mainGlobals mg) (c : SaysC hfa hfn hln hex K) : Txt0 K mg (He.ga K "Rule") where
  F_Rule___eq__ := mt_of (c.d.fact 0 (f := .meth "Rule" "__eq__") rfl) (c.d.def_ 0 (d := D0) rfl)
  F_Rule___init__ := in_of (c.d.fact 1 (f := .mkr "Rule") rfl) (c.d.def_ 1 (d := D1) rfl)
  F__law_right := ft_of X G (c.d.fact 2 (f := .glo "_law_right") rfl) (c.d.def_ 2 (d := D2) rfl)
  F_alike := ft_of X G (c.d.fact 3 (f := .glo "alike") rfl) (c.d.def_ 3 (d := D3) rfl)
  F_all_joined := ft_of X G (c.d.fact 4 (f := .glo "all_joined") rfl) (c.d.def_ 4 (d := D4) rfl)
  F_alone := ft_of X G (c.d.fact 5 (f := .glo "alone") rfl) (c.d.def_ 5 (d := D5) rfl)
  F_alone_or := ft_of X G (c.d.fact 6 (f := .glo "alone_or") rfl) (c.d.def_ 6 (d := D6) rfl)
  F_are_hours := ft_of X G (c.d.fact 7 (f := .glo "are_hours") rfl) (c.d.def_ 7 (d := D7) rfl)
  F_are_terms := ft_of X G (c.d.fact 8 (f := .glo "are_terms") rfl) (c.d.def_ 8 (d := D8) rfl)
  F_behind_hours := ft_of X G (c.d.fact 9 (f := .glo "behind_hours") rfl) (c.d.def_ 9 (d := D9) rfl)
  F_canonical := ft_of X G (c.d.fact 10 (f := .glo "canonical") rfl) (c.d.def_ 10 (d := D10) rfl)
  F_check_flat := ft_of X G (c.d.fact 11 (f := .glo "check_flat") rfl) (c.d.def_ 11 (d := D11) rfl)
  F_check_hours := ft_of X G (c.d.fact 12 (f := .glo "check_hours") rfl) (c.d.def_ 12 (d := D12) rfl)
  F_check_parting := ft_of X G (c.d.fact 13 (f := .glo "check_parting") rfl) (c.d.def_ 13 (d := D13) rfl)
  F_check_rows := ft_of X G (c.d.fact 14 (f := .glo "check_rows") rfl) (c.d.def_ 14 (d := D14) rfl)
  F_check_rule := ft_of X G (c.d.fact 15 (f := .glo "check_rule") rfl) (c.d.def_ 15 (d := D15) rfl)
  F_columns := ft_of X G (c.d.fact 16 (f := .glo "columns") rfl) (c.d.def_ 16 (d := D16) rfl)
  F_copied := ft_of X G (c.d.fact 17 (f := .glo "copied") rfl) (c.d.def_ 17 (d := D17) rfl)
  F_dict_of := ft_of X G (c.d.fact 18 (f := .glo "dict_of") rfl) (c.d.def_ 18 (d := D18) rfl)
  F_dict_of_t := ft_of X G (c.d.fact 18 (f := .glo "dict_of") rfl) (c.d.def_ 18 (d := D18) rfl)
  F_far_hour := ft_of X G (c.d.fact 19 (f := .glo "far_hour") rfl) (c.d.def_ 19 (d := D19) rfl)
  F_hours_for := ft_of X G (c.d.fact 20 (f := .glo "hours_for") rfl) (c.d.def_ 20 (d := D20) rfl)
  F_in_order := ft_of X G (c.d.fact 21 (f := .glo "in_order") rfl) (c.d.def_ 21 (d := D21) rfl)
  F_in_order_t := ft_of X G (c.d.fact 21 (f := .glo "in_order") rfl) (c.d.def_ 21 (d := D21) rfl)
  F_is_hours := ft_of X G (c.d.fact 22 (f := .glo "is_hours") rfl) (c.d.def_ 22 (d := D22) rfl)
  F_is_name := ft_of X G (c.d.fact 23 (f := .glo "is_name") rfl) (c.d.def_ 23 (d := D23) rfl)
  F_is_pair := ft_of X G (c.d.fact 24 (f := .glo "is_pair") rfl) (c.d.def_ 24 (d := D24) rfl)
  F_is_part := ft_of X G (c.d.fact 25 (f := .glo "is_part") rfl) (c.d.def_ 25 (d := D25) rfl)
  F_is_reasons := ft_of X G (c.d.fact 26 (f := .glo "is_reasons") rfl) (c.d.def_ 26 (d := D26) rfl)
  F_is_row := ft_of X G (c.d.fact 27 (f := .glo "is_row") rfl) (c.d.def_ 27 (d := D27) rfl)
  F_is_term := ft_of X G (c.d.fact 28 (f := .glo "is_term") rfl) (c.d.def_ 28 (d := D28) rfl)
  F_is_whole := ft_of X G (c.d.fact 29 (f := .glo "is_whole") rfl) (c.d.def_ 29 (d := D29) rfl)
  F_is_within := ft_of X G (c.d.fact 30 (f := .glo "is_within") rfl) (c.d.def_ 30 (d := D30) rfl)
  F_is_within_t := ft_of X G (c.d.fact 30 (f := .glo "is_within") rfl) (c.d.def_ 30 (d := D30) rfl)
  F_joined := ft_of X G (c.d.fact 31 (f := .glo "joined") rfl) (c.d.def_ 31 (d := D31) rfl)
  F_kept := ft_of X G (c.d.fact 32 (f := .glo "kept") rfl) (c.d.def_ 32 (d := D32) rfl)
  F_kept_t := ft_of X G (c.d.fact 32 (f := .glo "kept") rfl) (c.d.def_ 32 (d := D32) rfl)
  F_law := ft_of X G (c.d.fact 33 (f := .glo "law") rfl) (c.d.def_ 33 (d := D33) rfl)
  F_lean := ft_of X G (c.d.fact 34 (f := .glo "lean") rfl) (c.d.def_ 34 (d := D34) rfl)
  F_least_hour := ft_of X G (c.d.fact 35 (f := .glo "least_hour") rfl) (c.d.def_ 35 (d := D35) rfl)
  F_least_or_none := ft_of X G (c.d.fact 36 (f := .glo "least_or_none") rfl) (c.d.def_ 36 (d := D36) rfl)
  F_left_term := ft_of X G (c.d.fact 37 (f := .glo "left_term") rfl) (c.d.def_ 37 (d := D37) rfl)
  F_less_of := ft_of X G (c.d.fact 38 (f := .glo "less_of") rfl) (c.d.def_ 38 (d := D38) rfl)
  F_less_told := ft_of X G (c.d.fact 39 (f := .glo "less_told") rfl) (c.d.def_ 39 (d := D39) rfl)
  F_letter_rows := ft_of X G (c.d.fact 40 (f := .glo "letter_rows") rfl) (c.d.def_ 40 (d := D40) rfl)
  F_lots_by_size := ft_of X G (c.d.fact 41 (f := .glo "lots_by_size") rfl) (c.d.def_ 41 (d := D41) rfl)
  F_marked_term := ft_of X G (c.d.fact 42 (f := .glo "marked_term") rfl) (c.d.def_ 42 (d := D42) rfl)
  F_matters := ft_of X G (c.d.fact 43 (f := .glo "matters") rfl) (c.d.def_ 43 (d := D43) rfl)
  F_mirrored_term := ft_of X G (c.d.fact 44 (f := .glo "mirrored_term") rfl) (c.d.def_ 44 (d := D44) rfl)
  F_more_of := ft_of X G (c.d.fact 45 (f := .glo "more_of") rfl) (c.d.def_ 45 (d := D45) rfl)
  F_most_or_none := ft_of X G (c.d.fact 46 (f := .glo "most_or_none") rfl) (c.d.def_ 46 (d := D46) rfl)
  F_name_rows := ft_of X G (c.d.fact 47 (f := .glo "name_rows") rfl) (c.d.def_ 47 (d := D47) rfl)
  F_names_by := ft_of X G (c.d.fact 48 (f := .glo "names_by") rfl) (c.d.def_ 48 (d := D48) rfl)
  F_names_in := ft_of X G (c.d.fact 49 (f := .glo "names_in") rfl) (c.d.def_ 49 (d := D49) rfl)
  F_never_behind := ft_of X G (c.d.fact 50 (f := .glo "never_behind") rfl) (c.d.def_ 50 (d := D50) rfl)
  F_of_columns := ft_of X G (c.d.fact 51 (f := .glo "of_columns") rfl) (c.d.def_ 51 (d := D51) rfl)
  F_of_rows := ft_of X G (c.d.fact 52 (f := .glo "of_rows") rfl) (c.d.def_ 52 (d := D52) rfl)
  F_parting := ft_of X G (c.d.fact 53 (f := .glo "parting") rfl) (c.d.def_ 53 (d := D53) rfl)
  F_parts_from := ft_of X G (c.d.fact 54 (f := .glo "parts_from") rfl) (c.d.def_ 54 (d := D54) rfl)
  F_picked := ft_of X G (c.d.fact 55 (f := .glo "picked") rfl) (c.d.def_ 55 (d := D55) rfl)
  F_reasons := ft_of X G (c.d.fact 56 (f := .glo "reasons") rfl) (c.d.def_ 56 (d := D56) rfl)
  F_row_hour := ft_of X G (c.d.fact 57 (f := .glo "row_hour") rfl) (c.d.def_ 57 (d := D57) rfl)
  F_row_of := ft_of X G (c.d.fact 58 (f := .glo "row_of") rfl) (c.d.def_ 58 (d := D58) rfl)
  F_row_of_t := ft_of X G (c.d.fact 58 (f := .glo "row_of") rfl) (c.d.def_ 58 (d := D58) rfl)
  F_rows := ft_of X G (c.d.fact 59 (f := .glo "rows") rfl) (c.d.def_ 59 (d := D59) rfl)
  F_slack := ft_of X G (c.d.fact 60 (f := .glo "slack") rfl) (c.d.def_ 60 (d := D60) rfl)
  F_slack_of := ft_of X G (c.d.fact 61 (f := .glo "slack_of") rfl) (c.d.def_ 61 (d := D61) rfl)
  F_standing := ft_of X G (c.d.fact 62 (f := .glo "standing") rfl) (c.d.def_ 62 (d := D62) rfl)
  F_telling := ft_of X G (c.d.fact 63 (f := .glo "telling") rfl) (c.d.def_ 63 (d := D63) rfl)
  F_term_of_columns := ft_of X G (c.d.fact 64 (f := .glo "term_of_columns") rfl) (c.d.def_ 64 (d := D64) rfl)
  F_term_of_row := ft_of X G (c.d.fact 65 (f := .glo "term_of_row") rfl) (c.d.def_ 65 (d := D65) rfl)
  F_term_of_rows := ft_of X G (c.d.fact 66 (f := .glo "term_of_rows") rfl) (c.d.def_ 66 (d := D66) rfl)
  F_turned := ft_of X G (c.d.fact 67 (f := .glo "turned") rfl) (c.d.def_ 67 (d := D67) rfl)
  F_with_inside := ft_of X G (c.d.fact 68 (f := .glo "with_inside") rfl) (c.d.def_ 68 (d := D68) rfl)
  F_without_row := ft_of X G (c.d.fact 69 (f := .glo "without_row") rfl) (c.d.def_ 69 (d := D69) rfl)
  a_Rule_form := He.noat_ok (c.d.fact 70 (f := .noat "Rule" "form") rfl)
  c_Rule := He.glo_ok X G (c.d.fact 71 (f := .glo "Rule") rfl)
  g_LETTERS := He.str_ok X G (c.d.fact 72 (f := .str "LETTERS" "abcdefghijklmnopqrstuvwxyz") rfl)
  isi := (isi1_of (He.glo_ok X G (c.d.fact 71 (f := .glo "Rule") rfl)) (andL_ok (i := 0) c.ex rfl))
  k_Rule := He.cls_ok (c.d.fact 73 (f := .cls "Rule") rfl)
  n_bool := He.free_ok X G (c.d.fact 74 (f := .free "bool") rfl)
  n_dict := He.free_ok X G (c.d.fact 75 (f := .free "dict") rfl)
  n_enumerate := He.free_ok X G (c.d.fact 76 (f := .free "enumerate") rfl)
  n_int := He.free_ok X G (c.d.fact 77 (f := .free "int") rfl)
  n_isinstance := He.free_ok X G (c.d.fact 78 (f := .free "isinstance") rfl)
  n_len := He.free_ok X G (c.d.fact 79 (f := .free "len") rfl)
  n_list := He.free_ok X G (c.d.fact 80 (f := .free "list") rfl)
  n_max := He.free_ok X G (c.d.fact 81 (f := .free "max") rfl)
  n_min := He.free_ok X G (c.d.fact 82 (f := .free "min") rfl)
  n_range := He.free_ok X G (c.d.fact 83 (f := .free "range") rfl)
  n_set := He.free_ok X G (c.d.fact 84 (f := .free "set") rfl)
  n_sorted := He.free_ok X G (c.d.fact 85 (f := .free "sorted") rfl)
  n_str := He.free_ok X G (c.d.fact 86 (f := .free "str") rfl)
  n_sum := He.free_ok X G (c.d.fact 87 (f := .free "sum") rfl)
  n_tuple := He.free_ok X G (c.d.fact 88 (f := .free "tuple") rfl)
  ne_Rule := eqB_ok (andL_ok (i := 1) c.ex rfl)
  nf_Rule := nf_of (fun x hx => by
      rcases List.mem_cons.mp hx with rfl | hx
      · exact He.glo_ok X G (c.d.fact 71 (f := .glo "Rule") rfl)
      · cases hx) (andL_ok (i := 2) c.ex rfl)
  ob_Rule := eqB_ok (andL_ok (i := 3) c.ex rfl)
theorem hend {w : World} {K : PySem.W.Frag} {h : Heap} {mg : PySem.Str → Option Value} {fa : Addr} (X : K.In h) (G : h.Ns mainGlobals mg) (hmg : mg "law" = some (.ref fa)) (c : SaysC hfa hfn hln hex K) : ∃ fd : FuncData, (∀ (s : Shared) (u : Value), BindsTo s fd ⟨[u], []⟩ [("_law_script", u)]) ∧ ∀ base : Heap, K.In base → base.Ns mainGlobals mg → FnD HR.prog w K mg base 29 fa fd ["_law_script"] (spM ⟨mg, K⟩ m_law 1) := end_mk (P := HR.prog) (w := w) X G hmg (He.eqO_ok (c.d.fact 71 (f := .glo "Rule") rfl)) (htxt X G c)
end K14
section
open PySem PySem.W PyProof.Rows
set_option maxRecDepth 100000 in
set_option maxHeartbeats 0 in
theorem K14.hmain (plain : ∀ ns : List Int, ns.length ≤ 63 → ∃ st1, K14.m_law [.fro (ns.map LW.D.int)] [] = some (.bl true, st1)) : PySem.Challenge.rw_leafwaits_k14_rows_by_name.Holds := by
  w_on
  o_law
  refine HandSHeadRun.head_any (r := OpenLaw.row PySem.Challenge.rw_leafwaits_k14_rows_by_name) (q := view (OpenLaw.row PySem.Challenge.rw_leafwaits_k14_rows_by_name).prog [81]) (H := K14.hk) (ob := K14.hob) (M := 12000) (loose := K14.hnames) (d := HandSHeadRun.topDef (OpenLaw.row PySem.Challenge.rw_leafwaits_k14_rows_by_name).prog 81) (kwd := []) K14.hob_eq
    (by kernel_rfl) (fun s => by kernel_rfl) K14.hrun (by kernel_rfl) (by kernel_rfl) (by kernel_rfl) (by rfl) (by first | assumption | decide +kernel) (by decide +kernel) ⟨rfl, rfl, rfl, rfl, rfl, by decide +kernel⟩ ?hw ?hc
  case hw => w_witness2
  case hc =>
    refine LW.walk_DE (l := PySem.Challenge.rw_leafwaits_k14_rows_by_name) (n := 63) (k := 29) (x := "_law_script") (g := K14.m_law) rfl (by decide) (by kernel_rfl) ⟨rfl, by decide, by decide⟩ ?F plain
    intro w mg fa h Y G hmg0
    obtain ⟨K, KX, c⟩ := Y
    have hmg : mg ("law" : PySem.Str) = some (.ref fa) := by
      have e : (HandSHeadRun.topDef (OpenLaw.row PySem.Challenge.rw_leafwaits_k14_rows_by_name).prog 81).name = ("law" : PySem.Str) := by kernel_rfl
      rw [← e]
      exact hmg0
    exact ⟨K, KX, K14.hend KX G hmg c⟩
end

/-! V14: what of k14's bv_omega looks into no number. -/
namespace K14
open PySem L2 LW
local macro_rules | `(tactic| bv_omega) => `(tactic| (repeat (first | with_reducible first | refine z_var (by with_unfolding_all rfl) ?_ | refine z_pk (by with_unfolding_all rfl) ?_ | refine z_pkO (by with_unfolding_all rfl) ?_ | refine z_retO (by with_unfolding_all rfl) ?_ | refine z_dictO (by with_unfolding_all rfl) ?_ | refine z_c ?_ | refine z_op ?_ | refine z_nil ?_ | refine z_cons ?_ | refine z_tup ?_ | refine z_lst ?_ | refine z_L ?_ | refine z_bi ?_ | refine z_call ?_ | refine z_meth ?_ | refine z_prop ?_ | refine z_fld ?_ | refine z_make ?_ | refine z_not ?_ | refine z_neg ?_ | refine z_bits ?_ | refine t_of ?_ | refine t_not ?_ | refine z_slN ?_ | refine z_oN ?_ | refine z_oS ?_ | refine z_snil ?_ | refine z_seq ?_ | refine z_set ?_ | refine z_own ?_ | refine z_ret ?_ | refine z_retC ?_ | refine z_drop ?_ | refine z_frz ?_ | refine z_app ?_ | refine z_appC ?_ | refine z_putC ?_ | refine z_for ?_ | refine z_lc ?_ | refine z_yes ?_ | refine z_kv ?_ | refine z_ko ?_ | refine z_par ?_ | refine z_unp ?_ | refine z_sfld ?_ | refine z_rg1 ?_ | refine z_rg2 ?_ | refine z_rg3 ?_ | refine z_and ?_ | refine z_or ?_ | refine z_eif ?_ | refine t_and ?_ | refine t_or ?_ | refine z_sif ?_ | refine u_add ?_ | refine u_sub ?_ | refine u_lt ?_ | refine u_le ?_ | refine u_gt ?_ | refine u_ge ?_ | refine u_isN ?_ | refine u_notN ?_ | refine z_par3 ?_ | refine z_dcl ?_ | refine z_cel ?_ | refine z_putDC ?_ | refine z_clrC ?_ | refine z_ownD ?_ | refine z_lenSN ?_ | refine z_D ?_ | refine z_dComp ?_ | refine z_lc2 ?_ | refine z_sn ?_ | refine z_makeC ?_ | refine z_methC ?_ | refine z_fldC ?_ | refine z_sfldC ?_ | refine z_xSet ?_ | refine z_methX ?_ | refine z_methCX ?_ | refine z_xIfE ?_ | refine z_xEL ?_ | refine z_xPar2 (by decide) ?_ | refine z_kD2 ?_ | refine z_par2 (by decide) ?_ | refine z_d0 ?_ | refine z_xBare ?_ | refine z_xFrz ?_ | refine z_xFor ?_ | refine z_sortIt ?_ | refine z_lenO ?_ | refine z_xSeq ?_ | refine z_xIf ?_ | refine z_xRaise ?_ | refine z_xL ?_ | refine z_xNil ?_ | refine z_xDrop ?_ | refine z_xRet ?_ | refine z_eCallX ?_ | refine z_sTry ?_ | refine z_DT ?_ | refine z_t0 ?_ | refine z_Td ?_ | refine z_ownT ?_ | refine z_putT ?_ | refine z_frzT ?_ | refine z_par3T ?_ | refine z_toT ?_ | refine z_join ?_ | refine z_sw3 ?_ | refine z_err ?_ | refine z_err0 ?_ | refine z_errB ?_ | (with_reducible refine u_mul ?_ ?_; next => first | exact mulC_r (by decide) (by decide) | exact mulC_l (by decide) (by decide) | exact mulC_r (by omega) (by omega) | exact mulC_l (by omega) (by omega)) | (with_reducible refine u_mod ?_ ?_; next => first | decide | assumption | omega) | (with_reducible refine u_div ?_ ?_; next => first | exact divC_s (by decide) (by decide) | exact divC_s (by omega) (by omega)))))
abbrev tO (n : Str) (x : Int) : D := .tup [.str "of", .str n, .int x]
abbrev tT (w : Str) (x y : Int) : D := .tup [.str w, .lst [tO "a" x, tO "b" y]]
abbrev rul (t : D) : D := .obj "Rule" ["form"] [t]
section
variable {s : Sto} {xs ys : List D} {i j : Int}
theorem g_lst : lstR s (.lst xs) = some xs := rfl
theorem g_eqN : oEqN (.lst xs) (.lst []) s = some (.bl xs.isEmpty) := rfl
theorem g_addI : oAdd (.int i) (.int j) s = some (.int (i + j)) := rfl
theorem g_cat (h : xs.length + ys.length ≤ 1000000) : oCat (.lst xs) (.lst ys) s = some (xs ++ ys) := if_pos h
theorem g_addL (h : xs.length + ys.length ≤ 1000000) : oAdd (.lst xs) (.lst ys) s = some (.lst (xs ++ ys)) := by
  simp [orO, iOp, oCatS, asL, g_cat h]
theorem rg2 (s : Sto) (env : LW.Env) (f : SA) (e : f env s = some ([.int 2, .int 0, .int (-1)], s)) : iRg3 f env s = some (([.int 2, .int 1], noChk), s) := by
  unfold iRg3
  rw [e]
  kernel_rfl
theorem rg1 (s : Sto) (env : LW.Env) (f : SA) (e : f env s = some ([.int 1, .int 0, .int (-1)], s)) : iRg3 f env s = some (([.int 1], noChk), s) := by
  unfold iRg3
  rw [e]
  kernel_rfl
theorem rgU1 (s : Sto) (env : LW.Env) (f : SA) (e : f env s = some ([.int 1], s)) : iRg1 f env s = some (([.int 0], noChk), s) := by
  unfold iRg1
  rw [e]
  kernel_rfl
theorem rgU2 (s : Sto) (env : LW.Env) (f : SA) (e : f env s = some ([.int 2], s)) : iRg1 f env s = some (([.int 0, .int 1], noChk), s) := by
  unfold iRg1
  rw [e]
  kernel_rfl
theorem nab : ((Str.ofString "a" = Str.ofString "b") = False) := eq_false (by decide)
theorem nba : ((Str.ofString "b" = Str.ofString "a") = False) := eq_false (by decide)
theorem g_subI : oSub (.int i) (.int j) s = some (.int (i - j)) := rfl
theorem g_ixL : oIx (.lst xs) (.int i) s = atI xs i := rfl
theorem g_ixT : oIx (.tup xs) (.int i) s = atI xs i := rfl
theorem g_lt : oLt (.int i) (.int j) s = some (.bl (decide (i < j))) := rfl
theorem g_le : oLe (.int i) (.int j) s = some (.bl (decide (i ≤ j))) := rfl
theorem g_gt : oGt (.int i) (.int j) s = some (.bl (decide (j < i))) := rfl
theorem g_ge : oGe (.int i) (.int j) s = some (.bl (decide (j ≤ i))) := rfl
end
abbrev lA (x : Int) : D := .tup [.tup [.str "of", .str "a"], .int x]
abbrev lB (x : Int) : D := .tup [.tup [.str "of", .str "b"], .int x]
abbrev tA (x : Int) : D := .tup [.str "a", .int x]
abbrev tB (x : Int) : D := .tup [.str "b", .int x]
abbrev kA : List Key := [.inr "of", .inr "a"]
abbrev kB : List Key := [.inr "of", .inr "b"]
theorem mk_o (x : Int) (s : Sto) : m_Rule___init__ [tO "a" x] s = some (([("form" : Str)], [tO "a" x]), s) := by kernel_rfl
theorem mk_l (x y : Int) (s : Sto) : m_Rule___init__ [tT "last" x y] s = some (([("form" : Str)], [tT "last" x y]), s) := by kernel_rfl
theorem fl_o (x : Int) (s : Sto) : m_check_flat [rul (tO "a" x)] s = some (.non, s) := by kernel_rfl
theorem fl_l (x y : Int) (s : Sto) : m_check_flat [rul (tT "last" x y)] s = some (.non, s) := by kernel_rfl
theorem nb_o (x : Int) (s : Sto) : m_names_by [tO "a" x, .str "of"] s = some (.lst [.str "a"], s) := by kernel_rfl
theorem nb_l (x y : Int) (s : Sto) : m_names_by [tT "last" x y, .str "of"] s = some (.lst [.str "a", .str "b"], s) := by kernel_rfl
theorem row_a (x : Int) (s : Sto) : m_row_of_t [.dit [kA] [.int x]] s = some (.lst [.tup [keyT kA, .int x]], s) := by kernel_rfl
theorem io_a (x : Int) (s : Sto) : m_in_order_t [.lst [.dit [kA] [.int x]]] s = some (.lst [.dit [kA] [.int x]], s) := by kernel_rfl
theorem wi_aa (x y : Int) (s : Sto) : m_is_within_t [.dit [kA] [.int x], .dit [kB] [.int y]] s = some (.bl false, s) := by kernel_rfl
theorem jo (x y : Int) (s : Sto) : m_joined [.dit [kA] [.int x], .dit [kB] [.int y]] s = some (.dit [kA, kB] [.int x, .int y], s) := by kernel_rfl
theorem srt2 {x y : D} {s : Sto} {p q : PyData} (hx : toPy 60 s x = some p) (hy : toPy 60 s y = some q) (ha : alikes [p, q] = true) (hb : sortB [p, q] = true) (hl : PySem.W.dataLe false (fun d => d) p q = true) : gSortX [.lst [x, y]] s = some [x, y] := by
  have ex : encD s x = p := by unfold encD; rw [hx]; rfl
  have ey : encD s y = q := by unfold encD; rw [hy]; rfl
  have hl' : PySem.W.dataLe false (encD s) x y = true := by
    show PySem.W.dataLe false (fun d => d) (encD s x) (encD s y) = true
    rw [ex, ey]
    exact hl
  show (if ([x, y].all fun d => (toPy 60 s d).isSome) = true ∧ alikes ([x, y].map (encD s)) = true ∧ sortB ([x, y].map (encD s)) = true then some ([x, y].mergeSort (PySem.W.dataLe false (encD s))) else none) = _
  rw [if_pos ⟨by simp [hx, hy], by simpa [ex, ey] using ha, by simpa [ex, ey] using hb⟩]
  simp [List.mergeSort, List.MergeSort.Internal.splitInTwo, List.merge, hl']

theorem row_ab (x y : Int) (s : Sto) : m_row_of_t [.dit [kA, kB] [.int x, .int y]] s = some (.lst [.tup [keyT kA, .int x], .tup [keyT kB, .int y]], s) := by
  have e : m_row_of_t [.dit [kA, kB] [.int x, .int y]] s = (gSortX [.lst [.tup [keyT kA, .int x], .tup [keyT kB, .int y]]] s).map fun xs => (.lst xs, s) := by kernel_rfl
  rw [e, srt2 (p := .tuple [.tuple [.str "of", .str "a"], .int x]) (q := .tuple [.tuple [.str "of", .str "b"], .int y]) (by kernel_rfl) (by kernel_rfl) (by kernel_rfl) (by kernel_rfl) (by kernel_rfl)]
  rfl
theorem jo0 (x : Int) (s : Sto) : m_joined [.dit [] [], .dit [kA] [.int x]] s = some (.dit [kA] [.int x], s) := by kernel_rfl
theorem jo0b (x : Int) (s : Sto) : m_joined [.dit [] [], .dit [kB] [.int x]] s = some (.dit [kB] [.int x], s) := by kernel_rfl
theorem row_b (x : Int) (s : Sto) : m_row_of_t [.dit [kB] [.int x]] s = some (.lst [lB x], s) := by kernel_rfl
theorem io_b (x : Int) (s : Sto) : m_in_order_t [.lst [.dit [kB] [.int x]]] s = some (.lst [.dit [kB] [.int x]], s) := by kernel_rfl
theorem srtL (x y : Int) (s : Sto) : gSortX [.lst [.lst [lA x], .lst [lB y]]] s = some [.lst [lA x], .lst [lB y]] :=
  srt2 (p := .list [.tuple [.tuple [.str "of", .str "a"], .int x]]) (q := .list [.tuple [.tuple [.str "of", .str "b"], .int y]]) (by kernel_rfl) (by kernel_rfl) (by kernel_rfl) (by kernel_rfl) (by kernel_rfl)
theorem srtT (x y : Int) (s : Sto) : gSortX [.lst [.lst [tA x], .lst [tB y]]] s = some [.lst [tA x], .lst [tB y]] :=
  srt2 (p := .list [.tuple [.str "a", .int x]]) (q := .list [.tuple [.str "b", .int y]]) (by kernel_rfl) (by kernel_rfl) (by kernel_rfl) (by kernel_rfl) (by kernel_rfl)
theorem srtR (x y : Int) (s : Sto) : gSortX [.lst [tA x, tB y]] s = some [tA x, tB y] :=
  srt2 (p := .tuple [.str "a", .int x]) (q := .tuple [.str "b", .int y]) (by kernel_rfl) (by kernel_rfl) (by kernel_rfl) (by kernel_rfl) (by kernel_rfl)
theorem io_ab (x y : Int) (s : Sto) : m_in_order_t [.lst [.dit [kA, kB] [.int x, .int y]]] s = some (.lst [.dit [kA, kB] [.int x, .int y]], s) := by
  simp [g_lst, g_eqN, g_addI, g_addL, g_cat, nab, nba, g_subI, g_ixL, g_ixT, g_lt, g_le, g_gt, g_ge, fnM, env0, sSeq, sSet, sOwn, lDisp, aNil, eCall, eCallP, aCons, eVar, sFor, iSeq, loopM, noChk, asgN, asgT, setAll, sIf, bOf, bAnd, bOr, bNot, bYes, eOp, eL, lComp, compM, wipeE, oEqDD, ePeek, eqDD, flatD, eqGD, hitD, getG, eqFD, sApp, sFrz, frz, sRet, iKy, iKyT, oDx, oDxT, oInK, oInKT, dicG, keyD, keysD, keyT, keyV, getD, getDT, memT, eC, eBi, gLen, eIf, eTup, oIsN, oNotN, isNonD, dComp, dcM, putKD, putV, dCompT, dcMT, putKDT, putVT, eD, eDT, iEnm, enumD, eOr, eAnd, eNot, oEqLD, eqLD, oInLD, sDrop, sPar, Kd.run, eFld, fldD, eGetOT, eInOT, sPutT, sOwnT, sFrzT, frzT, sUnp, atI, ixN, eNeg, eVals, eMake, mapO, sNil, lT0, sPut, rgU1, rgU2, rg1, rg2, m_in_order_t, b_in_order_t, row_ab] <;> kernel_rfl
theorem io_2 (x y : Int) (s : Sto) : m_in_order_t [.lst [.dit [kA] [.int x], .dit [kB] [.int y]]] s = some (.lst [.dit [kA] [.int x], .dit [kB] [.int y]], s) := by
  simp [g_lst, g_eqN, g_addI, g_addL, g_cat, nab, nba, g_subI, g_ixL, g_ixT, g_lt, g_le, g_gt, g_ge, fnM, env0, sSeq, sSet, sOwn, lDisp, aNil, eCall, eCallP, aCons, eVar, sFor, iSeq, loopM, noChk, asgN, asgT, setAll, sIf, bOf, bAnd, bOr, bNot, bYes, eOp, eL, lComp, compM, wipeE, oEqDD, ePeek, eqDD, flatD, eqGD, hitD, getG, eqFD, sApp, sFrz, frz, sRet, iKy, iKyT, oDx, oDxT, oInK, oInKT, dicG, keyD, keysD, keyT, keyV, getD, getDT, memT, eC, eBi, gLen, eIf, eTup, oIsN, oNotN, isNonD, dComp, dcM, putKD, putV, dCompT, dcMT, putKDT, putVT, eD, eDT, iEnm, enumD, eOr, eAnd, eNot, oEqLD, eqLD, oInLD, sDrop, sPar, Kd.run, eFld, fldD, eGetOT, eInOT, sPutT, sOwnT, sFrzT, frzT, sUnp, atI, ixN, eNeg, eVals, eMake, mapO, sNil, lT0, sPut, rgU1, rgU2, rg1, rg2, m_in_order_t, b_in_order_t, row_a, row_b, srtL] <;> kernel_rfl
theorem kp_0 (s : Sto) : m_kept_t [.lst []] s = some (.lst [], s) := by kernel_rfl
theorem kp_a (x : Int) (s : Sto) : m_kept_t [.lst [.dit [kA] [.int x]]] s = some (.lst [.dit [kA] [.int x]], s) := by
  simp [g_lst, g_eqN, g_addI, g_addL, g_cat, nab, nba, g_subI, g_ixL, g_ixT, g_lt, g_le, g_gt, g_ge, fnM, env0, sSeq, sSet, sOwn, lDisp, aNil, eCall, eCallP, aCons, eVar, sFor, iSeq, loopM, noChk, asgN, asgT, setAll, sIf, bOf, bAnd, bOr, bNot, bYes, eOp, eL, lComp, compM, wipeE, oEqDD, ePeek, eqDD, flatD, eqGD, hitD, getG, eqFD, sApp, sFrz, frz, sRet, iKy, iKyT, oDx, oDxT, oInK, oInKT, dicG, keyD, keysD, keyT, keyV, getD, getDT, memT, eC, eBi, gLen, eIf, eTup, oIsN, oNotN, isNonD, dComp, dcM, putKD, putV, dCompT, dcMT, putKDT, putVT, eD, eDT, iEnm, enumD, eOr, eAnd, eNot, oEqLD, eqLD, oInLD, sDrop, sPar, Kd.run, eFld, fldD, eGetOT, eInOT, sPutT, sOwnT, sFrzT, frzT, sUnp, atI, ixN, eNeg, eVals, eMake, mapO, sNil, lT0, sPut, rgU1, rgU2, rg1, rg2, m_kept_t, b_kept_t, io_a] <;> kernel_rfl
theorem kp_b (x : Int) (s : Sto) : m_kept_t [.lst [.dit [kB] [.int x]]] s = some (.lst [.dit [kB] [.int x]], s) := by
  simp [g_lst, g_eqN, g_addI, g_addL, g_cat, nab, nba, g_subI, g_ixL, g_ixT, g_lt, g_le, g_gt, g_ge, fnM, env0, sSeq, sSet, sOwn, lDisp, aNil, eCall, eCallP, aCons, eVar, sFor, iSeq, loopM, noChk, asgN, asgT, setAll, sIf, bOf, bAnd, bOr, bNot, bYes, eOp, eL, lComp, compM, wipeE, oEqDD, ePeek, eqDD, flatD, eqGD, hitD, getG, eqFD, sApp, sFrz, frz, sRet, iKy, iKyT, oDx, oDxT, oInK, oInKT, dicG, keyD, keysD, keyT, keyV, getD, getDT, memT, eC, eBi, gLen, eIf, eTup, oIsN, oNotN, isNonD, dComp, dcM, putKD, putV, dCompT, dcMT, putKDT, putVT, eD, eDT, iEnm, enumD, eOr, eAnd, eNot, oEqLD, eqLD, oInLD, sDrop, sPar, Kd.run, eFld, fldD, eGetOT, eInOT, sPutT, sOwnT, sFrzT, frzT, sUnp, atI, ixN, eNeg, eVals, eMake, mapO, sNil, lT0, sPut, rgU1, rgU2, rg1, rg2, m_kept_t, b_kept_t, io_b] <;> kernel_rfl
theorem kp_ab (x y : Int) (s : Sto) : m_kept_t [.lst [.dit [kA, kB] [.int x, .int y]]] s = some (.lst [.dit [kA, kB] [.int x, .int y]], s) := by
  simp [g_lst, g_eqN, g_addI, g_addL, g_cat, nab, nba, g_subI, g_ixL, g_ixT, g_lt, g_le, g_gt, g_ge, fnM, env0, sSeq, sSet, sOwn, lDisp, aNil, eCall, eCallP, aCons, eVar, sFor, iSeq, loopM, noChk, asgN, asgT, setAll, sIf, bOf, bAnd, bOr, bNot, bYes, eOp, eL, lComp, compM, wipeE, oEqDD, ePeek, eqDD, flatD, eqGD, hitD, getG, eqFD, sApp, sFrz, frz, sRet, iKy, iKyT, oDx, oDxT, oInK, oInKT, dicG, keyD, keysD, keyT, keyV, getD, getDT, memT, eC, eBi, gLen, eIf, eTup, oIsN, oNotN, isNonD, dComp, dcM, putKD, putV, dCompT, dcMT, putKDT, putVT, eD, eDT, iEnm, enumD, eOr, eAnd, eNot, oEqLD, eqLD, oInLD, sDrop, sPar, Kd.run, eFld, fldD, eGetOT, eInOT, sPutT, sOwnT, sFrzT, frzT, sUnp, atI, ixN, eNeg, eVals, eMake, mapO, sNil, lT0, sPut, rgU1, rgU2, rg1, rg2, m_kept_t, b_kept_t, io_ab] <;> kernel_rfl
theorem wi_ba (x y : Int) (s : Sto) : m_is_within_t [.dit [kB] [.int y], .dit [kA] [.int x]] s = some (.bl false, s) := by kernel_rfl
theorem kp_2 (x y : Int) (s : Sto) : m_kept_t [.lst [.dit [kA] [.int x], .dit [kB] [.int y]]] s = some (.lst [.dit [kA] [.int x], .dit [kB] [.int y]], s) := by
  simp [g_lst, g_eqN, g_addI, g_addL, g_cat, nab, nba, g_subI, g_ixL, g_ixT, g_lt, g_le, g_gt, g_ge, fnM, env0, sSeq, sSet, sOwn, lDisp, aNil, eCall, eCallP, aCons, eVar, sFor, iSeq, loopM, noChk, asgN, asgT, setAll, sIf, bOf, bAnd, bOr, bNot, bYes, eOp, eL, lComp, compM, wipeE, oEqDD, ePeek, eqDD, flatD, eqGD, hitD, getG, eqFD, sApp, sFrz, frz, sRet, iKy, iKyT, oDx, oDxT, oInK, oInKT, dicG, keyD, keysD, keyT, keyV, getD, getDT, memT, eC, eBi, gLen, eIf, eTup, oIsN, oNotN, isNonD, dComp, dcM, putKD, putV, dCompT, dcMT, putKDT, putVT, eD, eDT, iEnm, enumD, eOr, eAnd, eNot, oEqLD, eqLD, oInLD, sDrop, sPar, Kd.run, eFld, fldD, eGetOT, eInOT, sPutT, sOwnT, sFrzT, frzT, sUnp, atI, ixN, eNeg, eVals, eMake, mapO, sNil, lT0, sPut, rgU1, rgU2, rg1, rg2, m_kept_t, b_kept_t, io_2, wi_aa, wi_ba] <;> kernel_rfl
theorem aj_0 (l : List D) (s : Sto) : m_all_joined [.lst [], .lst l] s = some (.lst [], s) := by kernel_rfl
theorem aj_a (x : Int) (s : Sto) : m_all_joined [.lst [.dit [] []], .lst [.dit [kA] [.int x]]] s = some (.lst [.dit [kA] [.int x]], s) := by
  simp [g_lst, g_eqN, g_addI, g_addL, g_cat, nab, nba, g_subI, g_ixL, g_ixT, g_lt, g_le, g_gt, g_ge, fnM, env0, sSeq, sSet, sOwn, lDisp, aNil, eCall, eCallP, aCons, eVar, sFor, iSeq, loopM, noChk, asgN, asgT, setAll, sIf, bOf, bAnd, bOr, bNot, bYes, eOp, eL, lComp, compM, wipeE, oEqDD, ePeek, eqDD, flatD, eqGD, hitD, getG, eqFD, sApp, sFrz, frz, sRet, iKy, iKyT, oDx, oDxT, oInK, oInKT, dicG, keyD, keysD, keyT, keyV, getD, getDT, memT, eC, eBi, gLen, eIf, eTup, oIsN, oNotN, isNonD, dComp, dcM, putKD, putV, dCompT, dcMT, putKDT, putVT, eD, eDT, iEnm, enumD, eOr, eAnd, eNot, oEqLD, eqLD, oInLD, sDrop, sPar, Kd.run, eFld, fldD, eGetOT, eInOT, sPutT, sOwnT, sFrzT, frzT, sUnp, atI, ixN, eNeg, eVals, eMake, mapO, sNil, lT0, sPut, rgU1, rgU2, rg1, rg2, m_all_joined, b_all_joined, jo0, kp_a] <;> kernel_rfl
theorem aj_b (x : Int) (s : Sto) : m_all_joined [.lst [.dit [] []], .lst [.dit [kB] [.int x]]] s = some (.lst [.dit [kB] [.int x]], s) := by
  simp [g_lst, g_eqN, g_addI, g_addL, g_cat, nab, nba, g_subI, g_ixL, g_ixT, g_lt, g_le, g_gt, g_ge, fnM, env0, sSeq, sSet, sOwn, lDisp, aNil, eCall, eCallP, aCons, eVar, sFor, iSeq, loopM, noChk, asgN, asgT, setAll, sIf, bOf, bAnd, bOr, bNot, bYes, eOp, eL, lComp, compM, wipeE, oEqDD, ePeek, eqDD, flatD, eqGD, hitD, getG, eqFD, sApp, sFrz, frz, sRet, iKy, iKyT, oDx, oDxT, oInK, oInKT, dicG, keyD, keysD, keyT, keyV, getD, getDT, memT, eC, eBi, gLen, eIf, eTup, oIsN, oNotN, isNonD, dComp, dcM, putKD, putV, dCompT, dcMT, putKDT, putVT, eD, eDT, iEnm, enumD, eOr, eAnd, eNot, oEqLD, eqLD, oInLD, sDrop, sPar, Kd.run, eFld, fldD, eGetOT, eInOT, sPutT, sOwnT, sFrzT, frzT, sUnp, atI, ixN, eNeg, eVals, eMake, mapO, sNil, lT0, sPut, rgU1, rgU2, rg1, rg2, m_all_joined, b_all_joined, jo0b, kp_b] <;> kernel_rfl
theorem aj_ab (x y : Int) (s : Sto) : m_all_joined [.lst [.dit [kA] [.int x]], .lst [.dit [kB] [.int y]]] s = some (.lst [.dit [kA, kB] [.int x, .int y]], s) := by
  simp [g_lst, g_eqN, g_addI, g_addL, g_cat, nab, nba, g_subI, g_ixL, g_ixT, g_lt, g_le, g_gt, g_ge, fnM, env0, sSeq, sSet, sOwn, lDisp, aNil, eCall, eCallP, aCons, eVar, sFor, iSeq, loopM, noChk, asgN, asgT, setAll, sIf, bOf, bAnd, bOr, bNot, bYes, eOp, eL, lComp, compM, wipeE, oEqDD, ePeek, eqDD, flatD, eqGD, hitD, getG, eqFD, sApp, sFrz, frz, sRet, iKy, iKyT, oDx, oDxT, oInK, oInKT, dicG, keyD, keysD, keyT, keyV, getD, getDT, memT, eC, eBi, gLen, eIf, eTup, oIsN, oNotN, isNonD, dComp, dcM, putKD, putV, dCompT, dcMT, putKDT, putVT, eD, eDT, iEnm, enumD, eOr, eAnd, eNot, oEqLD, eqLD, oInLD, sDrop, sPar, Kd.run, eFld, fldD, eGetOT, eInOT, sPutT, sOwnT, sFrzT, frzT, sUnp, atI, ixN, eNeg, eVals, eMake, mapO, sNil, lT0, sPut, rgU1, rgU2, rg1, rg2, m_all_joined, b_all_joined, jo, kp_ab] <;> kernel_rfl
end K14

/-! P14: rows of letters, rows of names. -/
namespace K14
open PySem L2 LW
theorem pk1 (x y : Int) (s : Sto) : m_picked [.lst [.lst [.dit [kA] [.int x]], .lst [.dit [kB] [.int y]]], .int 1] s = some (.lst [.dit [kA] [.int x], .dit [kB] [.int y]], s) := by
  simp [g_lst, g_eqN, g_addI, g_addL, g_cat, nab, nba, g_subI, g_ixL, g_ixT, g_lt, g_le, g_gt, g_ge, fnM, env0, sSeq, sSet, sOwn, lDisp, aNil, eCall, eCallP, aCons, eVar, sFor, iSeq, loopM, noChk, asgN, asgT, setAll, sIf, bOf, bAnd, bOr, bNot, bYes, eOp, eL, lComp, compM, wipeE, oEqDD, ePeek, eqDD, flatD, eqGD, hitD, getG, eqFD, sApp, sFrz, frz, sRet, iKy, iKyT, oDx, oDxT, oInK, oInKT, dicG, keyD, keysD, keyT, keyV, getD, getDT, memT, eC, eBi, gLen, eIf, eTup, oIsN, oNotN, isNonD, dComp, dcM, putKD, putV, dCompT, dcMT, putKDT, putVT, eD, eDT, iEnm, enumD, eOr, eAnd, eNot, oEqLD, eqLD, oInLD, sDrop, sPar, Kd.run, eFld, fldD, eGetOT, eInOT, sPutT, sOwnT, sFrzT, frzT, sUnp, atI, ixN, eNeg, eVals, eMake, mapO, sNil, lT0, sPut, rgU1, rgU2, rg1, rg2, m_picked, b_picked, aj_a, aj_b, aj_0, kp_0, kp_a, kp_2] <;> kernel_rfl
theorem pk2 (x y : Int) (s : Sto) : m_picked [.lst [.lst [.dit [kA] [.int x]], .lst [.dit [kB] [.int y]]], .int 2] s = some (.lst [.dit [kA, kB] [.int x, .int y]], s) := by
  simp [g_lst, g_eqN, g_addI, g_addL, g_cat, nab, nba, g_subI, g_ixL, g_ixT, g_lt, g_le, g_gt, g_ge, fnM, env0, sSeq, sSet, sOwn, lDisp, aNil, eCall, eCallP, aCons, eVar, sFor, iSeq, loopM, noChk, asgN, asgT, setAll, sIf, bOf, bAnd, bOr, bNot, bYes, eOp, eL, lComp, compM, wipeE, oEqDD, ePeek, eqDD, flatD, eqGD, hitD, getG, eqFD, sApp, sFrz, frz, sRet, iKy, iKyT, oDx, oDxT, oInK, oInKT, dicG, keyD, keysD, keyT, keyV, getD, getDT, memT, eC, eBi, gLen, eIf, eTup, oIsN, oNotN, isNonD, dComp, dcM, putKD, putV, dCompT, dcMT, putKDT, putVT, eD, eDT, iEnm, enumD, eOr, eAnd, eNot, oEqLD, eqLD, oInLD, sDrop, sPar, Kd.run, eFld, fldD, eGetOT, eInOT, sPutT, sOwnT, sFrzT, frzT, sUnp, atI, ixN, eNeg, eVals, eMake, mapO, sNil, lT0, sPut, rgU1, rgU2, rg1, rg2, m_picked, b_picked, aj_a, aj_b, aj_0, aj_ab, kp_0, kp_a, kp_b, kp_ab, kp_2] <;> kernel_rfl
theorem lr_a (x : Int) (s : Sto) : mr_letter_rows 10 [tO "a" x] s = some (.lst [.dit [kA] [.int x]], s) := by kernel_rfl
theorem lr_b (x : Int) (s : Sto) : mr_letter_rows 10 [tO "b" x] s = some (.lst [.dit [kB] [.int x]], s) := by kernel_rfl
theorem lr_o (x : Int) (s : Sto) : m_letter_rows [tO "a" x] s = some (.lst [.dit [kA] [.int x]], s) := by kernel_rfl
theorem lr_n (s : Sto) : m_letter_rows [.tup [.str "now", .str "a", .int 0]] s = some (.lst [.dit [[.inr "now", .inr "a"]] [.int 0]], s) := by kernel_rfl
theorem i_ofl (s : Sto) : oInT false (.str "last") (.tup [.str "of", .str "now"]) s = some (.bl false) := by kernel_rfl
theorem i_off (s : Sto) : oInT false (.str "first") (.tup [.str "of", .str "now"]) s = some (.bl false) := by kernel_rfl
theorem e_lf (s : Sto) : oEq (.str "last") (.str "first") s = some (.bl false) := by kernel_rfl
theorem e_ff (s : Sto) : oEq (.str "first") (.str "first") s = some (.bl true) := by kernel_rfl
theorem e_lr (s : Sto) : oEq (.str "last") (.str "rank") s = some (.bl false) := by kernel_rfl
theorem lr_l (x y : Int) (s : Sto) : m_letter_rows [tT "last" x y] s = some (.lst [.dit [kA, kB] [.int x, .int y]], s) := by
  rw [show m_letter_rows = fnM 1 3 (b_letter_rows (mr_letter_rows 10)) from rfl]
  simp [g_lst, g_eqN, g_addI, g_addL, g_cat, nab, nba, g_subI, g_ixL, g_ixT, g_lt, g_le, g_gt, g_ge, fnM, env0, sSeq, sSet, sOwn, lDisp, aNil, eCall, eCallP, aCons, eVar, sFor, iSeq, loopM, noChk, asgN, asgT, setAll, sIf, bOf, bAnd, bOr, bNot, bYes, eOp, eL, lComp, compM, wipeE, oEqDD, ePeek, eqDD, flatD, eqGD, hitD, getG, eqFD, sApp, sFrz, frz, sRet, iKy, iKyT, oDx, oDxT, oInK, oInKT, dicG, keyD, keysD, keyT, keyV, getD, getDT, memT, eC, eBi, gLen, eIf, eTup, oIsN, oNotN, isNonD, dComp, dcM, putKD, putV, dCompT, dcMT, putKDT, putVT, eD, eDT, iEnm, enumD, eOr, eAnd, eNot, oEqLD, eqLD, oInLD, sDrop, sPar, Kd.run, eFld, fldD, eGetOT, eInOT, sPutT, sOwnT, sFrzT, frzT, sUnp, atI, ixN, eNeg, eVals, eMake, mapO, sNil, lT0, sPut, rgU1, rgU2, rg1, rg2, b_letter_rows, lr_a, lr_b, pk2, i_ofl, e_lf, e_lr] <;> kernel_rfl
theorem lr_f (x y : Int) (s : Sto) : m_letter_rows [tT "first" x y] s = some (.lst [.dit [kA] [.int x], .dit [kB] [.int y]], s) := by
  rw [show m_letter_rows = fnM 1 3 (b_letter_rows (mr_letter_rows 10)) from rfl]
  simp [g_lst, g_eqN, g_addI, g_addL, g_cat, nab, nba, g_subI, g_ixL, g_ixT, g_lt, g_le, g_gt, g_ge, fnM, env0, sSeq, sSet, sOwn, lDisp, aNil, eCall, eCallP, aCons, eVar, sFor, iSeq, loopM, noChk, asgN, asgT, setAll, sIf, bOf, bAnd, bOr, bNot, bYes, eOp, eL, lComp, compM, wipeE, oEqDD, ePeek, eqDD, flatD, eqGD, hitD, getG, eqFD, sApp, sFrz, frz, sRet, iKy, iKyT, oDx, oDxT, oInK, oInKT, dicG, keyD, keysD, keyT, keyV, getD, getDT, memT, eC, eBi, gLen, eIf, eTup, oIsN, oNotN, isNonD, dComp, dcM, putKD, putV, dCompT, dcMT, putKDT, putVT, eD, eDT, iEnm, enumD, eOr, eAnd, eNot, oEqLD, eqLD, oInLD, sDrop, sPar, Kd.run, eFld, fldD, eGetOT, eInOT, sPutT, sOwnT, sFrzT, frzT, sUnp, atI, ixN, eNeg, eVals, eMake, mapO, sNil, lT0, sPut, rgU1, rgU2, rg1, rg2, b_letter_rows, lr_a, lr_b, pk1, i_off, e_ff] <;> kernel_rfl
abbrev dA (x : Int) : D := .dic [.inr "a"] [.int x]
abbrev dB (x : Int) : D := .dic [.inr "b"] [.int x]
abbrev dAB (x y : Int) : D := .dic [.inr "a", .inr "b"] [.int x, .int y]
theorem nr_o (x : Int) (s : Sto) : m_name_rows [tO "a" x] s = some (.lst [dA x], s) := by kernel_rfl
theorem nr_l (x y : Int) (s : Sto) : m_name_rows [tT "last" x y] s = some (.lst [dAB x y], s) := by
  simp [g_lst, g_eqN, g_addI, g_addL, g_cat, nab, nba, g_subI, g_ixL, g_ixT, g_lt, g_le, g_gt, g_ge, fnM, env0, sSeq, sSet, sOwn, lDisp, aNil, eCall, eCallP, aCons, eVar, sFor, iSeq, loopM, noChk, asgN, asgT, setAll, sIf, bOf, bAnd, bOr, bNot, bYes, eOp, eL, lComp, compM, wipeE, oEqDD, ePeek, eqDD, flatD, eqGD, hitD, getG, eqFD, sApp, sFrz, frz, sRet, iKy, iKyT, oDx, oDxT, oInK, oInKT, dicG, keyD, keysD, keyT, keyV, getD, getDT, memT, eC, eBi, gLen, eIf, eTup, oIsN, oNotN, isNonD, dComp, dcM, putKD, putV, dCompT, dcMT, putKDT, putVT, eD, eDT, iEnm, enumD, eOr, eAnd, eNot, oEqLD, eqLD, oInLD, sDrop, sPar, Kd.run, eFld, fldD, eGetOT, eInOT, sPutT, sOwnT, sFrzT, frzT, sUnp, atI, ixN, eNeg, eVals, eMake, mapO, sNil, lT0, sPut, rgU1, rgU2, rg1, rg2, m_name_rows, b_name_rows, lr_l] <;> kernel_rfl
theorem nr_f (x y : Int) (s : Sto) : m_name_rows [tT "first" x y] s = some (.lst [dA x, dB y], s) := by
  simp [g_lst, g_eqN, g_addI, g_addL, g_cat, nab, nba, g_subI, g_ixL, g_ixT, g_lt, g_le, g_gt, g_ge, fnM, env0, sSeq, sSet, sOwn, lDisp, aNil, eCall, eCallP, aCons, eVar, sFor, iSeq, loopM, noChk, asgN, asgT, setAll, sIf, bOf, bAnd, bOr, bNot, bYes, eOp, eL, lComp, compM, wipeE, oEqDD, ePeek, eqDD, flatD, eqGD, hitD, getG, eqFD, sApp, sFrz, frz, sRet, iKy, iKyT, oDx, oDxT, oInK, oInKT, dicG, keyD, keysD, keyT, keyV, getD, getDT, memT, eC, eBi, gLen, eIf, eTup, oIsN, oNotN, isNonD, dComp, dcM, putKD, putV, dCompT, dcMT, putKDT, putVT, eD, eDT, iEnm, enumD, eOr, eAnd, eNot, oEqLD, eqLD, oInLD, sDrop, sPar, Kd.run, eFld, fldD, eGetOT, eInOT, sPutT, sOwnT, sFrzT, frzT, sUnp, atI, ixN, eNeg, eVals, eMake, mapO, sNil, lT0, sPut, rgU1, rgU2, rg1, rg2, m_name_rows, b_name_rows, lr_f] <;> kernel_rfl
theorem cn_o (x : Int) (s : Sto) : m_canonical [rul (tO "a" x)] s = some (.lst [dA x], s) := by kernel_rfl
theorem cn_l (x y : Int) (s : Sto) : m_canonical [rul (tT "last" x y)] s = some (.lst [dAB x y], s) := by
  simp [g_lst, g_eqN, g_addI, g_addL, g_cat, nab, nba, g_subI, g_ixL, g_ixT, g_lt, g_le, g_gt, g_ge, fnM, env0, sSeq, sSet, sOwn, lDisp, aNil, eCall, eCallP, aCons, eVar, sFor, iSeq, loopM, noChk, asgN, asgT, setAll, sIf, bOf, bAnd, bOr, bNot, bYes, eOp, eL, lComp, compM, wipeE, oEqDD, ePeek, eqDD, flatD, eqGD, hitD, getG, eqFD, sApp, sFrz, frz, sRet, iKy, iKyT, oDx, oDxT, oInK, oInKT, dicG, keyD, keysD, keyT, keyV, getD, getDT, memT, eC, eBi, gLen, eIf, eTup, oIsN, oNotN, isNonD, dComp, dcM, putKD, putV, dCompT, dcMT, putKDT, putVT, eD, eDT, iEnm, enumD, eOr, eAnd, eNot, oEqLD, eqLD, oInLD, sDrop, sPar, Kd.run, eFld, fldD, eGetOT, eInOT, sPutT, sOwnT, sFrzT, frzT, sUnp, atI, ixN, eNeg, eVals, eMake, mapO, sNil, lT0, sPut, rgU1, rgU2, rg1, rg2, m_canonical, b_canonical, nr_l] <;> kernel_rfl
theorem rw_a (x : Int) (s : Sto) : m_row_of [dA x] s = some (.lst [tA x], s) := by kernel_rfl
theorem rw_b (x : Int) (s : Sto) : m_row_of [dB x] s = some (.lst [tB x], s) := by kernel_rfl
theorem rw_ab (x y : Int) (s : Sto) : m_row_of [dAB x y] s = some (.lst [tA x, tB y], s) := by
  simp [g_lst, g_eqN, g_addI, g_addL, g_cat, nab, nba, g_subI, g_ixL, g_ixT, g_lt, g_le, g_gt, g_ge, fnM, env0, sSeq, sSet, sOwn, lDisp, aNil, eCall, eCallP, aCons, eVar, sFor, iSeq, loopM, noChk, asgN, asgT, setAll, sIf, bOf, bAnd, bOr, bNot, bYes, eOp, eL, lComp, compM, wipeE, oEqDD, ePeek, eqDD, flatD, eqGD, hitD, getG, eqFD, sApp, sFrz, frz, sRet, iKy, iKyT, oDx, oDxT, oInK, oInKT, dicG, keyD, keysD, keyT, keyV, getD, getDT, memT, eC, eBi, gLen, eIf, eTup, oIsN, oNotN, isNonD, dComp, dcM, putKD, putV, dCompT, dcMT, putKDT, putVT, eD, eDT, iEnm, enumD, eOr, eAnd, eNot, oEqLD, eqLD, oInLD, sDrop, sPar, Kd.run, eFld, fldD, eGetOT, eInOT, sPutT, sOwnT, sFrzT, frzT, sUnp, atI, ixN, eNeg, eVals, eMake, mapO, sNil, lT0, sPut, rgU1, rgU2, rg1, rg2, m_row_of, b_row_of, srtR] <;> kernel_rfl
theorem rows_l (x y : Int) (s : Sto) : m_rows [rul (tT "last" x y)] s = some (.lst [.lst [tA x, tB y]], s) := by
  simp [g_lst, g_eqN, g_addI, g_addL, g_cat, nab, nba, g_subI, g_ixL, g_ixT, g_lt, g_le, g_gt, g_ge, fnM, env0, sSeq, sSet, sOwn, lDisp, aNil, eCall, eCallP, aCons, eVar, sFor, iSeq, loopM, noChk, asgN, asgT, setAll, sIf, bOf, bAnd, bOr, bNot, bYes, eOp, eL, lComp, compM, wipeE, oEqDD, ePeek, eqDD, flatD, eqGD, hitD, getG, eqFD, sApp, sFrz, frz, sRet, iKy, iKyT, oDx, oDxT, oInK, oInKT, dicG, keyD, keysD, keyT, keyV, getD, getDT, memT, eC, eBi, gLen, eIf, eTup, oIsN, oNotN, isNonD, dComp, dcM, putKD, putV, dCompT, dcMT, putKDT, putVT, eD, eDT, iEnm, enumD, eOr, eAnd, eNot, oEqLD, eqLD, oInLD, sDrop, sPar, Kd.run, eFld, fldD, eGetOT, eInOT, sPutT, sOwnT, sFrzT, frzT, sUnp, atI, ixN, eNeg, eVals, eMake, mapO, sNil, lT0, sPut, rgU1, rgU2, rg1, rg2, m_rows, b_rows, fl_l, cn_l, rw_ab] <;> kernel_rfl
theorem matters_l (x y : Int) (s : Sto) : m_matters [rul (tT "last" x y)] s = some (.lst [.str "a", .str "b"], s) := by
  simp [g_lst, g_eqN, g_addI, g_addL, g_cat, nab, nba, g_subI, g_ixL, g_ixT, g_lt, g_le, g_gt, g_ge, fnM, env0, sSeq, sSet, sOwn, lDisp, aNil, eCall, eCallP, aCons, eVar, sFor, iSeq, loopM, noChk, asgN, asgT, setAll, sIf, bOf, bAnd, bOr, bNot, bYes, eOp, eL, lComp, compM, wipeE, oEqDD, ePeek, eqDD, flatD, eqGD, hitD, getG, eqFD, sApp, sFrz, frz, sRet, iKy, iKyT, oDx, oDxT, oInK, oInKT, dicG, keyD, keysD, keyT, keyV, getD, getDT, memT, eC, eBi, gLen, eIf, eTup, oIsN, oNotN, isNonD, dComp, dcM, putKD, putV, dCompT, dcMT, putKDT, putVT, eD, eDT, iEnm, enumD, eOr, eAnd, eNot, oEqLD, eqLD, oInLD, sDrop, sPar, Kd.run, eFld, fldD, eGetOT, eInOT, sPutT, sOwnT, sFrzT, frzT, sUnp, atI, ixN, eNeg, eVals, eMake, mapO, sNil, lT0, sPut, rgU1, rgU2, rg1, rg2, m_matters, b_matters, fl_l, cn_l] <;> kernel_rfl
theorem mir_l (x y : Int) (s : Sto) : m_mirrored_term [tT "last" x y] s = some (tT "first" (0 - x) (0 - y), s) := by kernel_rfl
theorem tu_a (x : Int) (s : Sto) : m_turned [dA x] s = some (dA (0 - x), s) := by kernel_rfl
theorem tu_b (x : Int) (s : Sto) : m_turned [dB x] s = some (dB (0 - x), s) := by kernel_rfl
theorem cols_l (x y : Int) (s : Sto) : m_columns [rul (tT "last" x y)] s = some (.lst [.lst [tA (0 - (0 - x))], .lst [tB (0 - (0 - y))]], s) := by
  simp [g_lst, g_eqN, g_addI, g_addL, g_cat, nab, nba, g_subI, g_ixL, g_ixT, g_lt, g_le, g_gt, g_ge, fnM, env0, sSeq, sSet, sOwn, lDisp, aNil, eCall, eCallP, aCons, eVar, sFor, iSeq, loopM, noChk, asgN, asgT, setAll, sIf, bOf, bAnd, bOr, bNot, bYes, eOp, eL, lComp, compM, wipeE, oEqDD, ePeek, eqDD, flatD, eqGD, hitD, getG, eqFD, sApp, sFrz, frz, sRet, iKy, iKyT, oDx, oDxT, oInK, oInKT, dicG, keyD, keysD, keyT, keyV, getD, getDT, memT, eC, eBi, gLen, eIf, eTup, oIsN, oNotN, isNonD, dComp, dcM, putKD, putV, dCompT, dcMT, putKDT, putVT, eD, eDT, iEnm, enumD, eOr, eAnd, eNot, oEqLD, eqLD, oInLD, sDrop, sPar, Kd.run, eFld, fldD, eGetOT, eInOT, sPutT, sOwnT, sFrzT, frzT, sUnp, atI, ixN, eNeg, eVals, eMake, mapO, sNil, lT0, sPut, rgU1, rgU2, rg1, rg2, m_columns, b_columns, fl_l, mir_l, nr_f, tu_a, tu_b, rw_a, rw_b, srtT] <;> kernel_rfl
/-! within -/
theorem w_oa (x y z : Int) (s : Sto) (h : ¬ y < x) : m_is_within [dA x, dAB y z] s = some (.bl true, s) := by
  simp [g_lst, g_eqN, g_addI, g_addL, g_cat, nab, nba, g_subI, g_ixL, g_ixT, g_lt, g_le, g_gt, g_ge, fnM, env0, sSeq, sSet, sOwn, lDisp, aNil, eCall, eCallP, aCons, eVar, sFor, iSeq, loopM, noChk, asgN, asgT, setAll, sIf, bOf, bAnd, bOr, bNot, bYes, eOp, eL, lComp, compM, wipeE, oEqDD, ePeek, eqDD, flatD, eqGD, hitD, getG, eqFD, sApp, sFrz, frz, sRet, iKy, iKyT, oDx, oDxT, oInK, oInKT, dicG, keyD, keysD, keyT, keyV, getD, getDT, memT, eC, eBi, gLen, eIf, eTup, oIsN, oNotN, isNonD, dComp, dcM, putKD, putV, dCompT, dcMT, putKDT, putVT, eD, eDT, iEnm, enumD, eOr, eAnd, eNot, oEqLD, eqLD, oInLD, sDrop, sPar, Kd.run, eFld, fldD, eGetOT, eInOT, sPutT, sOwnT, sFrzT, frzT, sUnp, atI, ixN, eNeg, eVals, eMake, mapO, sNil, lT0, sPut, rgU1, rgU2, rg1, rg2, m_is_within, b_is_within, h] <;> kernel_rfl
theorem w_ao (x y z : Int) (s : Sto) : m_is_within [dAB y z, dA x] s = some (.bl false, s) := by
  by_cases h : x < y <;> simp [g_lst, g_eqN, g_addI, g_addL, g_cat, nab, nba, g_subI, g_ixL, g_ixT, g_lt, g_le, g_gt, g_ge, fnM, env0, sSeq, sSet, sOwn, lDisp, aNil, eCall, eCallP, aCons, eVar, sFor, iSeq, loopM, noChk, asgN, asgT, setAll, sIf, bOf, bAnd, bOr, bNot, bYes, eOp, eL, lComp, compM, wipeE, oEqDD, ePeek, eqDD, flatD, eqGD, hitD, getG, eqFD, sApp, sFrz, frz, sRet, iKy, iKyT, oDx, oDxT, oInK, oInKT, dicG, keyD, keysD, keyT, keyV, getD, getDT, memT, eC, eBi, gLen, eIf, eTup, oIsN, oNotN, isNonD, dComp, dcM, putKD, putV, dCompT, dcMT, putKDT, putVT, eD, eDT, iEnm, enumD, eOr, eAnd, eNot, oEqLD, eqLD, oInLD, sDrop, sPar, Kd.run, eFld, fldD, eGetOT, eInOT, sPutT, sOwnT, sFrzT, frzT, sUnp, atI, ixN, eNeg, eVals, eMake, mapO, sNil, lT0, sPut, rgU1, rgU2, rg1, rg2, m_is_within, b_is_within, h] <;> kernel_rfl
theorem w_ll (x y : Int) (s : Sto) : m_is_within [dAB x y, dAB x y] s = some (.bl true, s) := by
  simp [g_lst, g_eqN, g_addI, g_addL, g_cat, nab, nba, g_subI, g_ixL, g_ixT, g_lt, g_le, g_gt, g_ge, fnM, env0, sSeq, sSet, sOwn, lDisp, aNil, eCall, eCallP, aCons, eVar, sFor, iSeq, loopM, noChk, asgN, asgT, setAll, sIf, bOf, bAnd, bOr, bNot, bYes, eOp, eL, lComp, compM, wipeE, oEqDD, ePeek, eqDD, flatD, eqGD, hitD, getG, eqFD, sApp, sFrz, frz, sRet, iKy, iKyT, oDx, oDxT, oInK, oInKT, dicG, keyD, keysD, keyT, keyV, getD, getDT, memT, eC, eBi, gLen, eIf, eTup, oIsN, oNotN, isNonD, dComp, dcM, putKD, putV, dCompT, dcMT, putKDT, putVT, eD, eDT, iEnm, enumD, eOr, eAnd, eNot, oEqLD, eqLD, oInLD, sDrop, sPar, Kd.run, eFld, fldD, eGetOT, eInOT, sPutT, sOwnT, sFrzT, frzT, sUnp, atI, ixN, eNeg, eVals, eMake, mapO, sNil, lT0, sPut, rgU1, rgU2, rg1, rg2, m_is_within, b_is_within] <;> kernel_rfl
end K14

/-! Q14: the functions of rows at the law's two rules. -/
namespace K14
open PySem L2 LW
abbrev late (x y : Int) : D := rul (tT "last" x y)
abbrev soon (x : Int) : D := rul (tO "a" x)
theorem wr_s (x y z : Int) (s : Sto) (h : ¬ y < x) : m_without_row [.lst [dA x], .lst [dAB y z]] s = some (.non, s) := by
  simp [g_lst, g_eqN, g_addI, g_addL, g_cat, nab, nba, g_subI, g_ixL, g_ixT, g_lt, g_le, g_gt, g_ge, fnM, env0, sSeq, sSet, sOwn, lDisp, aNil, eCall, eCallP, aCons, eVar, sFor, iSeq, loopM, noChk, asgN, asgT, setAll, sIf, bOf, bAnd, bOr, bNot, bYes, eOp, eL, lComp, compM, wipeE, oEqDD, ePeek, eqDD, flatD, eqGD, hitD, getG, eqFD, sApp, sFrz, frz, sRet, iKy, iKyT, oDx, oDxT, oInK, oInKT, dicG, keyD, keysD, keyT, keyV, getD, getDT, memT, eC, eBi, gLen, eIf, eTup, oIsN, oNotN, isNonD, dComp, dcM, putKD, putV, dCompT, dcMT, putKDT, putVT, eD, eDT, iEnm, enumD, eOr, eAnd, eNot, oEqLD, eqLD, oInLD, sDrop, sPar, Kd.run, eFld, fldD, eGetOT, eInOT, sPutT, sOwnT, sFrzT, frzT, sUnp, atI, ixN, eNeg, eVals, eMake, mapO, sNil, lT0, sPut, rgU1, rgU2, rg1, rg2, m_without_row, b_without_row, w_oa x y z s h] <;> kernel_rfl
theorem wr_l (x y z : Int) (s : Sto) : m_without_row [.lst [dAB y z], .lst [dA x]] s = some (dA x, s) := by
  simp [g_lst, g_eqN, g_addI, g_addL, g_cat, nab, nba, g_subI, g_ixL, g_ixT, g_lt, g_le, g_gt, g_ge, fnM, env0, sSeq, sSet, sOwn, lDisp, aNil, eCall, eCallP, aCons, eVar, sFor, iSeq, loopM, noChk, asgN, asgT, setAll, sIf, bOf, bAnd, bOr, bNot, bYes, eOp, eL, lComp, compM, wipeE, oEqDD, ePeek, eqDD, flatD, eqGD, hitD, getG, eqFD, sApp, sFrz, frz, sRet, iKy, iKyT, oDx, oDxT, oInK, oInKT, dicG, keyD, keysD, keyT, keyV, getD, getDT, memT, eC, eBi, gLen, eIf, eTup, oIsN, oNotN, isNonD, dComp, dcM, putKD, putV, dCompT, dcMT, putKDT, putVT, eD, eDT, iEnm, enumD, eOr, eAnd, eNot, oEqLD, eqLD, oInLD, sDrop, sPar, Kd.run, eFld, fldD, eGetOT, eInOT, sPutT, sOwnT, sFrzT, frzT, sUnp, atI, ixN, eNeg, eVals, eMake, mapO, sNil, lT0, sPut, rgU1, rgU2, rg1, rg2, m_without_row, b_without_row, w_ao] <;> kernel_rfl
theorem wr_ll (x y : Int) (s : Sto) : m_without_row [.lst [dAB x y], .lst [dAB x y]] s = some (.non, s) := by
  simp [g_lst, g_eqN, g_addI, g_addL, g_cat, nab, nba, g_subI, g_ixL, g_ixT, g_lt, g_le, g_gt, g_ge, fnM, env0, sSeq, sSet, sOwn, lDisp, aNil, eCall, eCallP, aCons, eVar, sFor, iSeq, loopM, noChk, asgN, asgT, setAll, sIf, bOf, bAnd, bOr, bNot, bYes, eOp, eL, lComp, compM, wipeE, oEqDD, ePeek, eqDD, flatD, eqGD, hitD, getG, eqFD, sApp, sFrz, frz, sRet, iKy, iKyT, oDx, oDxT, oInK, oInKT, dicG, keyD, keysD, keyT, keyV, getD, getDT, memT, eC, eBi, gLen, eIf, eTup, oIsN, oNotN, isNonD, dComp, dcM, putKD, putV, dCompT, dcMT, putKDT, putVT, eD, eDT, iEnm, enumD, eOr, eAnd, eNot, oEqLD, eqLD, oInLD, sDrop, sPar, Kd.run, eFld, fldD, eGetOT, eInOT, sPutT, sOwnT, sFrzT, frzT, sUnp, atI, ixN, eNeg, eVals, eMake, mapO, sNil, lT0, sPut, rgU1, rgU2, rg1, rg2, m_without_row, b_without_row, w_ll] <;> kernel_rfl
theorem nb_sl (x y z : Int) (s : Sto) (h : ¬ y < x) : m_never_behind [soon x, late y z] s = some (.bl true, s) := by
  simp [g_lst, g_eqN, g_addI, g_addL, g_cat, nab, nba, g_subI, g_ixL, g_ixT, g_lt, g_le, g_gt, g_ge, fnM, env0, sSeq, sSet, sOwn, lDisp, aNil, eCall, eCallP, aCons, eVar, sFor, iSeq, loopM, noChk, asgN, asgT, setAll, sIf, bOf, bAnd, bOr, bNot, bYes, eOp, eL, lComp, compM, wipeE, oEqDD, ePeek, eqDD, flatD, eqGD, hitD, getG, eqFD, sApp, sFrz, frz, sRet, iKy, iKyT, oDx, oDxT, oInK, oInKT, dicG, keyD, keysD, keyT, keyV, getD, getDT, memT, eC, eBi, gLen, eIf, eTup, oIsN, oNotN, isNonD, dComp, dcM, putKD, putV, dCompT, dcMT, putKDT, putVT, eD, eDT, iEnm, enumD, eOr, eAnd, eNot, oEqLD, eqLD, oInLD, sDrop, sPar, Kd.run, eFld, fldD, eGetOT, eInOT, sPutT, sOwnT, sFrzT, frzT, sUnp, atI, ixN, eNeg, eVals, eMake, mapO, sNil, lT0, sPut, rgU1, rgU2, rg1, rg2, m_never_behind, b_never_behind, fl_o, fl_l, cn_o, cn_l, wr_s x y z s h] <;> kernel_rfl
theorem nb_ls (x y z : Int) (s : Sto) : m_never_behind [late y z, soon x] s = some (.bl false, s) := by
  simp [g_lst, g_eqN, g_addI, g_addL, g_cat, nab, nba, g_subI, g_ixL, g_ixT, g_lt, g_le, g_gt, g_ge, fnM, env0, sSeq, sSet, sOwn, lDisp, aNil, eCall, eCallP, aCons, eVar, sFor, iSeq, loopM, noChk, asgN, asgT, setAll, sIf, bOf, bAnd, bOr, bNot, bYes, eOp, eL, lComp, compM, wipeE, oEqDD, ePeek, eqDD, flatD, eqGD, hitD, getG, eqFD, sApp, sFrz, frz, sRet, iKy, iKyT, oDx, oDxT, oInK, oInKT, dicG, keyD, keysD, keyT, keyV, getD, getDT, memT, eC, eBi, gLen, eIf, eTup, oIsN, oNotN, isNonD, dComp, dcM, putKD, putV, dCompT, dcMT, putKDT, putVT, eD, eDT, iEnm, enumD, eOr, eAnd, eNot, oEqLD, eqLD, oInLD, sDrop, sPar, Kd.run, eFld, fldD, eGetOT, eInOT, sPutT, sOwnT, sFrzT, frzT, sUnp, atI, ixN, eNeg, eVals, eMake, mapO, sNil, lT0, sPut, rgU1, rgU2, rg1, rg2, m_never_behind, b_never_behind, fl_o, fl_l, cn_o, cn_l, wr_l] <;> kernel_rfl
/-! rules of rows -/
theorem cr_1 (x y : Int) (s : Sto) : m_check_rows [.lst [.lst [tA x, tB y]]] s = some (.non, s) := by kernel_rfl
theorem cr_2 (x y : Int) (s : Sto) : m_check_rows [.lst [.lst [tA x], .lst [tB y]]] s = some (.non, s) := by kernel_rfl
theorem do_a (x : Int) (s : Sto) : m_dict_of [.lst [tA x]] s = some (dA x, s) := by kernel_rfl
theorem do_b (x : Int) (s : Sto) : m_dict_of [.lst [tB x]] s = some (dB x, s) := by kernel_rfl
theorem do_ab (x y : Int) (s : Sto) : m_dict_of [.lst [tA x, tB y]] s = some (dAB x y, s) := by kernel_rfl
theorem it_ab (x y : Int) (s : Sto) : m_in_order [.lst [dAB x y]] s = some (.lst [dAB x y], s) := by
  simp [g_lst, g_eqN, g_addI, g_addL, g_cat, nab, nba, g_subI, g_ixL, g_ixT, g_lt, g_le, g_gt, g_ge, fnM, env0, sSeq, sSet, sOwn, lDisp, aNil, eCall, eCallP, aCons, eVar, sFor, iSeq, loopM, noChk, asgN, asgT, setAll, sIf, bOf, bAnd, bOr, bNot, bYes, eOp, eL, lComp, compM, wipeE, oEqDD, ePeek, eqDD, flatD, eqGD, hitD, getG, eqFD, sApp, sFrz, frz, sRet, iKy, iKyT, oDx, oDxT, oInK, oInKT, dicG, keyD, keysD, keyT, keyV, getD, getDT, memT, eC, eBi, gLen, eIf, eTup, oIsN, oNotN, isNonD, dComp, dcM, putKD, putV, dCompT, dcMT, putKDT, putVT, eD, eDT, iEnm, enumD, eOr, eAnd, eNot, oEqLD, eqLD, oInLD, sDrop, sPar, Kd.run, eFld, fldD, eGetOT, eInOT, sPutT, sOwnT, sFrzT, frzT, sUnp, atI, ixN, eNeg, eVals, eMake, mapO, sNil, lT0, sPut, rgU1, rgU2, rg1, rg2, m_in_order, b_in_order, rw_ab] <;> kernel_rfl
theorem it_2 (x y : Int) (s : Sto) : m_in_order [.lst [dA x, dB y]] s = some (.lst [dA x, dB y], s) := by
  simp [g_lst, g_eqN, g_addI, g_addL, g_cat, nab, nba, g_subI, g_ixL, g_ixT, g_lt, g_le, g_gt, g_ge, fnM, env0, sSeq, sSet, sOwn, lDisp, aNil, eCall, eCallP, aCons, eVar, sFor, iSeq, loopM, noChk, asgN, asgT, setAll, sIf, bOf, bAnd, bOr, bNot, bYes, eOp, eL, lComp, compM, wipeE, oEqDD, ePeek, eqDD, flatD, eqGD, hitD, getG, eqFD, sApp, sFrz, frz, sRet, iKy, iKyT, oDx, oDxT, oInK, oInKT, dicG, keyD, keysD, keyT, keyV, getD, getDT, memT, eC, eBi, gLen, eIf, eTup, oIsN, oNotN, isNonD, dComp, dcM, putKD, putV, dCompT, dcMT, putKDT, putVT, eD, eDT, iEnm, enumD, eOr, eAnd, eNot, oEqLD, eqLD, oInLD, sDrop, sPar, Kd.run, eFld, fldD, eGetOT, eInOT, sPutT, sOwnT, sFrzT, frzT, sUnp, atI, ixN, eNeg, eVals, eMake, mapO, sNil, lT0, sPut, rgU1, rgU2, rg1, rg2, m_in_order, b_in_order, rw_a, rw_b, srtT] <;> kernel_rfl
theorem wt_ab (x y : Int) (s : Sto) : m_is_within [dA x, dB y] s = some (.bl false, s) := by kernel_rfl
theorem wt_ba (x y : Int) (s : Sto) : m_is_within [dB y, dA x] s = some (.bl false, s) := by kernel_rfl
theorem kt_ab (x y : Int) (s : Sto) : m_kept [.lst [dAB x y]] s = some (.lst [dAB x y], s) := by
  simp [g_lst, g_eqN, g_addI, g_addL, g_cat, nab, nba, g_subI, g_ixL, g_ixT, g_lt, g_le, g_gt, g_ge, fnM, env0, sSeq, sSet, sOwn, lDisp, aNil, eCall, eCallP, aCons, eVar, sFor, iSeq, loopM, noChk, asgN, asgT, setAll, sIf, bOf, bAnd, bOr, bNot, bYes, eOp, eL, lComp, compM, wipeE, oEqDD, ePeek, eqDD, flatD, eqGD, hitD, getG, eqFD, sApp, sFrz, frz, sRet, iKy, iKyT, oDx, oDxT, oInK, oInKT, dicG, keyD, keysD, keyT, keyV, getD, getDT, memT, eC, eBi, gLen, eIf, eTup, oIsN, oNotN, isNonD, dComp, dcM, putKD, putV, dCompT, dcMT, putKDT, putVT, eD, eDT, iEnm, enumD, eOr, eAnd, eNot, oEqLD, eqLD, oInLD, sDrop, sPar, Kd.run, eFld, fldD, eGetOT, eInOT, sPutT, sOwnT, sFrzT, frzT, sUnp, atI, ixN, eNeg, eVals, eMake, mapO, sNil, lT0, sPut, rgU1, rgU2, rg1, rg2, m_kept, b_kept, it_ab] <;> kernel_rfl
theorem kt_2 (x y : Int) (s : Sto) : m_kept [.lst [dA x, dB y]] s = some (.lst [dA x, dB y], s) := by
  simp [g_lst, g_eqN, g_addI, g_addL, g_cat, nab, nba, g_subI, g_ixL, g_ixT, g_lt, g_le, g_gt, g_ge, fnM, env0, sSeq, sSet, sOwn, lDisp, aNil, eCall, eCallP, aCons, eVar, sFor, iSeq, loopM, noChk, asgN, asgT, setAll, sIf, bOf, bAnd, bOr, bNot, bYes, eOp, eL, lComp, compM, wipeE, oEqDD, ePeek, eqDD, flatD, eqGD, hitD, getG, eqFD, sApp, sFrz, frz, sRet, iKy, iKyT, oDx, oDxT, oInK, oInKT, dicG, keyD, keysD, keyT, keyV, getD, getDT, memT, eC, eBi, gLen, eIf, eTup, oIsN, oNotN, isNonD, dComp, dcM, putKD, putV, dCompT, dcMT, putKDT, putVT, eD, eDT, iEnm, enumD, eOr, eAnd, eNot, oEqLD, eqLD, oInLD, sDrop, sPar, Kd.run, eFld, fldD, eGetOT, eInOT, sPutT, sOwnT, sFrzT, frzT, sUnp, atI, ixN, eNeg, eVals, eMake, mapO, sNil, lT0, sPut, rgU1, rgU2, rg1, rg2, m_kept, b_kept, it_2, wt_ab, wt_ba] <;> kernel_rfl
theorem tr_ab (x y : Int) (s : Sto) : m_term_of_row [dAB x y, .str "last"] s = some (tT "last" x y, s) := by kernel_rfl
theorem tr_a (x : Int) (s : Sto) : m_term_of_row [dA x, .str "first"] s = some (tO "a" x, s) := by kernel_rfl
theorem tr_b (x : Int) (s : Sto) : m_term_of_row [dB x, .str "first"] s = some (tO "b" x, s) := by kernel_rfl
theorem ao_1 (t : D) (s : Sto) : m_alone_or [.str "first", .lst [t]] s = some (t, s) := by kernel_rfl
theorem ao_2 (t u : D) (s : Sto) : m_alone_or [.str "last", .lst [t, u]] s = some (.tup [.str "last", .lst [t, u]], s) := by kernel_rfl
theorem tors (x y : Int) (s : Sto) : m_term_of_rows [.lst [dAB x y]] s = some (tT "last" x y, s) := by
  simp [g_lst, g_eqN, g_addI, g_addL, g_cat, nab, nba, g_subI, g_ixL, g_ixT, g_lt, g_le, g_gt, g_ge, fnM, env0, sSeq, sSet, sOwn, lDisp, aNil, eCall, eCallP, aCons, eVar, sFor, iSeq, loopM, noChk, asgN, asgT, setAll, sIf, bOf, bAnd, bOr, bNot, bYes, eOp, eL, lComp, compM, wipeE, oEqDD, ePeek, eqDD, flatD, eqGD, hitD, getG, eqFD, sApp, sFrz, frz, sRet, iKy, iKyT, oDx, oDxT, oInK, oInKT, dicG, keyD, keysD, keyT, keyV, getD, getDT, memT, eC, eBi, gLen, eIf, eTup, oIsN, oNotN, isNonD, dComp, dcM, putKD, putV, dCompT, dcMT, putKDT, putVT, eD, eDT, iEnm, enumD, eOr, eAnd, eNot, oEqLD, eqLD, oInLD, sDrop, sPar, Kd.run, eFld, fldD, eGetOT, eInOT, sPutT, sOwnT, sFrzT, frzT, sUnp, atI, ixN, eNeg, eVals, eMake, mapO, sNil, lT0, sPut, rgU1, rgU2, rg1, rg2, m_term_of_rows, b_term_of_rows, kt_ab, tr_ab, ao_1] <;> kernel_rfl
theorem ofr (x y : Int) (s : Sto) : m_of_rows [.lst [.lst [tA x, tB y]]] s = some (late x y, s) := by
  simp [g_lst, g_eqN, g_addI, g_addL, g_cat, nab, nba, g_subI, g_ixL, g_ixT, g_lt, g_le, g_gt, g_ge, fnM, env0, sSeq, sSet, sOwn, lDisp, aNil, eCall, eCallP, aCons, eVar, sFor, iSeq, loopM, noChk, asgN, asgT, setAll, sIf, bOf, bAnd, bOr, bNot, bYes, eOp, eL, lComp, compM, wipeE, oEqDD, ePeek, eqDD, flatD, eqGD, hitD, getG, eqFD, sApp, sFrz, frz, sRet, iKy, iKyT, oDx, oDxT, oInK, oInKT, dicG, keyD, keysD, keyT, keyV, getD, getDT, memT, eC, eBi, gLen, eIf, eTup, oIsN, oNotN, isNonD, dComp, dcM, putKD, putV, dCompT, dcMT, putKDT, putVT, eD, eDT, iEnm, enumD, eOr, eAnd, eNot, oEqLD, eqLD, oInLD, sDrop, sPar, Kd.run, eFld, fldD, eGetOT, eInOT, sPutT, sOwnT, sFrzT, frzT, sUnp, atI, ixN, eNeg, eVals, eMake, mapO, sNil, lT0, sPut, rgU1, rgU2, rg1, rg2, m_of_rows, b_of_rows, cr_1, do_ab, tors, mk_l] <;> kernel_rfl
theorem tocs (x y : Int) (s : Sto) : m_term_of_columns [.lst [dA x, dB y]] s = some (tT "last" (0 - (0 - x)) (0 - (0 - y)), s) := by
  simp [g_lst, g_eqN, g_addI, g_addL, g_cat, nab, nba, g_subI, g_ixL, g_ixT, g_lt, g_le, g_gt, g_ge, fnM, env0, sSeq, sSet, sOwn, lDisp, aNil, eCall, eCallP, aCons, eVar, sFor, iSeq, loopM, noChk, asgN, asgT, setAll, sIf, bOf, bAnd, bOr, bNot, bYes, eOp, eL, lComp, compM, wipeE, oEqDD, ePeek, eqDD, flatD, eqGD, hitD, getG, eqFD, sApp, sFrz, frz, sRet, iKy, iKyT, oDx, oDxT, oInK, oInKT, dicG, keyD, keysD, keyT, keyV, getD, getDT, memT, eC, eBi, gLen, eIf, eTup, oIsN, oNotN, isNonD, dComp, dcM, putKD, putV, dCompT, dcMT, putKDT, putVT, eD, eDT, iEnm, enumD, eOr, eAnd, eNot, oEqLD, eqLD, oInLD, sDrop, sPar, Kd.run, eFld, fldD, eGetOT, eInOT, sPutT, sOwnT, sFrzT, frzT, sUnp, atI, ixN, eNeg, eVals, eMake, mapO, sNil, lT0, sPut, rgU1, rgU2, rg1, rg2, m_term_of_columns, b_term_of_columns, tu_a, tu_b, kt_2, it_2, tr_a, tr_b, ao_2] <;> kernel_rfl
theorem ofc (x y : Int) (s : Sto) : m_of_columns [.lst [.lst [tA x], .lst [tB y]]] s = some (late (0 - (0 - x)) (0 - (0 - y)), s) := by
  simp [g_lst, g_eqN, g_addI, g_addL, g_cat, nab, nba, g_subI, g_ixL, g_ixT, g_lt, g_le, g_gt, g_ge, fnM, env0, sSeq, sSet, sOwn, lDisp, aNil, eCall, eCallP, aCons, eVar, sFor, iSeq, loopM, noChk, asgN, asgT, setAll, sIf, bOf, bAnd, bOr, bNot, bYes, eOp, eL, lComp, compM, wipeE, oEqDD, ePeek, eqDD, flatD, eqGD, hitD, getG, eqFD, sApp, sFrz, frz, sRet, iKy, iKyT, oDx, oDxT, oInK, oInKT, dicG, keyD, keysD, keyT, keyV, getD, getDT, memT, eC, eBi, gLen, eIf, eTup, oIsN, oNotN, isNonD, dComp, dcM, putKD, putV, dCompT, dcMT, putKDT, putVT, eD, eDT, iEnm, enumD, eOr, eAnd, eNot, oEqLD, eqLD, oInLD, sDrop, sPar, Kd.run, eFld, fldD, eGetOT, eInOT, sPutT, sOwnT, sFrzT, frzT, sUnp, atI, ixN, eNeg, eVals, eMake, mapO, sNil, lT0, sPut, rgU1, rgU2, rg1, rg2, m_of_columns, b_of_columns, cr_2, do_a, do_b, tocs, mk_l] <;> kernel_rfl
/-! alike -/
theorem al_ls (x y z : Int) (s : Sto) : m_alike [late y z, soon x] s = some (.bl false, s) := by
  simp [g_lst, g_eqN, g_addI, g_addL, g_cat, nab, nba, g_subI, g_ixL, g_ixT, g_lt, g_le, g_gt, g_ge, fnM, env0, sSeq, sSet, sOwn, lDisp, aNil, eCall, eCallP, aCons, eVar, sFor, iSeq, loopM, noChk, asgN, asgT, setAll, sIf, bOf, bAnd, bOr, bNot, bYes, eOp, eL, lComp, compM, wipeE, oEqDD, ePeek, eqDD, flatD, eqGD, hitD, getG, eqFD, sApp, sFrz, frz, sRet, iKy, iKyT, oDx, oDxT, oInK, oInKT, dicG, keyD, keysD, keyT, keyV, getD, getDT, memT, eC, eBi, gLen, eIf, eTup, oIsN, oNotN, isNonD, dComp, dcM, putKD, putV, dCompT, dcMT, putKDT, putVT, eD, eDT, iEnm, enumD, eOr, eAnd, eNot, oEqLD, eqLD, oInLD, sDrop, sPar, Kd.run, eFld, fldD, eGetOT, eInOT, sPutT, sOwnT, sFrzT, frzT, sUnp, atI, ixN, eNeg, eVals, eMake, mapO, sNil, lT0, sPut, rgU1, rgU2, rg1, rg2, m_alike, b_alike, fl_o, fl_l, cn_o, cn_l] <;> kernel_rfl
theorem al_ll (x y : Int) (s : Sto) : m_alike [late x y, late x y] s = some (.bl true, s) := by
  simp [g_lst, g_eqN, g_addI, g_addL, g_cat, nab, nba, g_subI, g_ixL, g_ixT, g_lt, g_le, g_gt, g_ge, fnM, env0, sSeq, sSet, sOwn, lDisp, aNil, eCall, eCallP, aCons, eVar, sFor, iSeq, loopM, noChk, asgN, asgT, setAll, sIf, bOf, bAnd, bOr, bNot, bYes, eOp, eL, lComp, compM, wipeE, oEqDD, ePeek, eqDD, flatD, eqGD, hitD, getG, eqFD, sApp, sFrz, frz, sRet, iKy, iKyT, oDx, oDxT, oInK, oInKT, dicG, keyD, keysD, keyT, keyV, getD, getDT, memT, eC, eBi, gLen, eIf, eTup, oIsN, oNotN, isNonD, dComp, dcM, putKD, putV, dCompT, dcMT, putKDT, putVT, eD, eDT, iEnm, enumD, eOr, eAnd, eNot, oEqLD, eqLD, oInLD, sDrop, sPar, Kd.run, eFld, fldD, eGetOT, eInOT, sPutT, sOwnT, sFrzT, frzT, sUnp, atI, ixN, eNeg, eVals, eMake, mapO, sNil, lT0, sPut, rgU1, rgU2, rg1, rg2, m_alike, b_alike, fl_l, cn_l] <;> kernel_rfl
/-! equal things -/
theorem oEq_eq {x y : D} {s : Sto} {p q : PyData} (hx : toPy 60 s x = some p) (hy : toPy 60 s y = some q) : oEq x y s = some (.bl (PyData.eqv p q)) := by
  unfold oEq
  rw [hx, hy]
theorem oNe_eq {x y : D} {s : Sto} {p q : PyData} (hx : toPy 60 s x = some p) (hy : toPy 60 s y = some q) : oNe x y s = some (.bl (!PyData.eqv p q)) := by
  unfold oNe
  rw [hx, hy]
abbrev pO (n : Str) (x : Int) : PyData := .tuple [.str "of", .str n, .int x]
theorem py_late (x y : Int) (s : Sto) : toPy 60 s (tT "last" x y) = some (.tuple [.str "last", .list [pO "a" x, pO "b" y]]) := by kernel_rfl
theorem py_soon (x : Int) (s : Sto) : toPy 60 s (tO "a" x) = some (pO "a" x) := by kernel_rfl
theorem eqr_l (x y u v : Int) (hx : x = u) (hy : y = v) (s : Sto) : m_Rule___eq__ [late x y, late u v] s = some (.bl true, s) := by
  subst hx hy
  have e : oEq (tT "last" x y) (tT "last" x y) s = some (.bl true) := by
    rw [oEq_eq (py_late x y s) (py_late x y s)]
    simp [PyData.eqv, PyData.eqvAll]
  have g : gIsi CS [late x y, .cls "Rule"] s = some (.bl true) := by kernel_rfl
  simp [g_lst, g_eqN, g_addI, g_addL, g_cat, nab, nba, g_subI, g_ixL, g_ixT, g_lt, g_le, g_gt, g_ge, fnM, env0, sSeq, sSet, sOwn, lDisp, aNil, eCall, eCallP, aCons, eVar, sFor, iSeq, loopM, noChk, asgN, asgT, setAll, sIf, bOf, bAnd, bOr, bNot, bYes, eOp, eL, lComp, compM, wipeE, oEqDD, ePeek, eqDD, flatD, eqGD, hitD, getG, eqFD, sApp, sFrz, frz, sRet, iKy, iKyT, oDx, oDxT, oInK, oInKT, dicG, keyD, keysD, keyT, keyV, getD, getDT, memT, eC, eBi, gLen, eIf, eTup, oIsN, oNotN, isNonD, dComp, dcM, putKD, putV, dCompT, dcMT, putKDT, putVT, eD, eDT, iEnm, enumD, eOr, eAnd, eNot, oEqLD, eqLD, oInLD, sDrop, sPar, Kd.run, eFld, fldD, eGetOT, eInOT, sPutT, sOwnT, sFrzT, frzT, sUnp, atI, ixN, eNeg, eVals, eMake, mapO, sNil, lT0, sPut, rgU1, rgU2, rg1, rg2, m_Rule___eq__, b_Rule___eq__, e, g] <;> kernel_rfl
theorem eqr_s (x : Int) (s : Sto) : m_Rule___eq__ [soon x, soon x] s = some (.bl true, s) := by
  have e : oEq (tO "a" x) (tO "a" x) s = some (.bl true) := by
    rw [oEq_eq (py_soon x s) (py_soon x s)]
    simp [PyData.eqv, PyData.eqvAll]
  have g : gIsi CS [soon x, .cls "Rule"] s = some (.bl true) := by kernel_rfl
  simp [g_lst, g_eqN, g_addI, g_addL, g_cat, nab, nba, g_subI, g_ixL, g_ixT, g_lt, g_le, g_gt, g_ge, fnM, env0, sSeq, sSet, sOwn, lDisp, aNil, eCall, eCallP, aCons, eVar, sFor, iSeq, loopM, noChk, asgN, asgT, setAll, sIf, bOf, bAnd, bOr, bNot, bYes, eOp, eL, lComp, compM, wipeE, oEqDD, ePeek, eqDD, flatD, eqGD, hitD, getG, eqFD, sApp, sFrz, frz, sRet, iKy, iKyT, oDx, oDxT, oInK, oInKT, dicG, keyD, keysD, keyT, keyV, getD, getDT, memT, eC, eBi, gLen, eIf, eTup, oIsN, oNotN, isNonD, dComp, dcM, putKD, putV, dCompT, dcMT, putKDT, putVT, eD, eDT, iEnm, enumD, eOr, eAnd, eNot, oEqLD, eqLD, oInLD, sDrop, sPar, Kd.run, eFld, fldD, eGetOT, eInOT, sPutT, sOwnT, sFrzT, frzT, sUnp, atI, ixN, eNeg, eVals, eMake, mapO, sNil, lT0, sPut, rgU1, rgU2, rg1, rg2, m_Rule___eq__, b_Rule___eq__, e, g] <;> kernel_rfl
end K14

/-! R14: hours that part, reasons, slack, lean, telling, alone. -/
namespace K14
open PySem L2 LW
abbrev hrs (h k : Int) : D := .dic [.inr "a", .inr "b"] [.int h, .int k]
def m4 (x y z : Int) : Int := (minL [0, x, y, z]).getD 0
def m3 (x y : Int) : Int := (minL [0, x, y]).getD 0
def m2 (x : Int) : Int := (minL [0, x]).getD 0
theorem minL_c (x : Int) (r : List Int) : minL (x :: r) = some ((minL (x :: r)).getD 0) := by
  have : ∃ m, minL (x :: r) = some m := by
    unfold minL
    cases minL r with
    | none => exact ⟨_, rfl⟩
    | some m => exact ⟨_, rfl⟩
  obtain ⟨m, e⟩ := this
  rw [e]
  rfl
theorem m4_some (x y z : Int) : minL [0, x, y, z] = some (m4 x y z) := minL_c _ _
theorem m3_some (x y : Int) : minL [0, x, y] = some (m3 x y) := minL_c _ _
theorem m2_some (x : Int) : minL [0, x] = some (m2 x) := minL_c _ _
theorem m4_le (x y z : Int) : m4 x y z ≤ 0 ∧ m4 x y z ≤ x ∧ m4 x y z ≤ y ∧ m4 x y z ≤ z := by
  have h := (minL_ok (m4_some x y z)).2
  exact ⟨h 0 (by simp), h x (by simp), h y (by simp), h z (by simp)⟩
theorem fa_4 (x y z : Int) (s : Sto) : m_far_hour [.lst [.lst [dAB x y], .lst [dA z]]] s = some (.int (1 - m4 x y z), s) := by
  have g : gMin [.lst [.int 0, .int x, .int y, .int z]] s = some (.int (m4 x y z)) := by
    show (match minL [0, x, y, z] with | some m => some (D.int m) | none => none) = _
    rw [m4_some]
  have e : m_far_hour [.lst [.lst [dAB x y], .lst [dA z]]] s = (gMin [.lst [.int 0, .int x, .int y, .int z]] s).bind fun d => (oSub (.int 1) d s).map fun r => (r, s) := by
    rw [g]
    simp [g_lst, g_eqN, g_addI, g_addL, g_cat, nab, nba, g_subI, g_ixL, g_ixT, g_lt, g_le, g_gt, g_ge, fnM, env0, sSeq, sSet, sOwn, lDisp, aNil, eCall, eCallP, aCons, eVar, sFor, iSeq, loopM, noChk, asgN, asgT, setAll, sIf, bOf, bAnd, bOr, bNot, bYes, eOp, eL, lComp, compM, wipeE, oEqDD, ePeek, eqDD, flatD, eqGD, hitD, getG, eqFD, sApp, sFrz, frz, sRet, iKy, iKyT, oDx, oDxT, oInK, oInKT, dicG, keyD, keysD, keyT, keyV, getD, getDT, memT, eC, eBi, gLen, eIf, eTup, oIsN, oNotN, isNonD, dComp, dcM, putKD, putV, dCompT, dcMT, putKDT, putVT, eD, eDT, iEnm, enumD, eOr, eAnd, eNot, oEqLD, eqLD, oInLD, sDrop, sPar, Kd.run, eFld, fldD, eGetOT, eInOT, sPutT, sOwnT, sFrzT, frzT, sUnp, atI, ixN, eNeg, eVals, eMake, mapO, sNil, lT0, sPut, rgU1, rgU2, rg1, rg2, m_far_hour, b_far_hour, g] <;> kernel_rfl
  rw [e, g]
  rfl
theorem fa_3 (x y : Int) (s : Sto) : m_far_hour [.lst [.lst [dAB x y]]] s = some (.int (1 - m3 x y), s) := by
  have g : gMin [.lst [.int 0, .int x, .int y]] s = some (.int (m3 x y)) := by
    show (match minL [0, x, y] with | some m => some (D.int m) | none => none) = _
    rw [m3_some]
  simp [g_lst, g_eqN, g_addI, g_addL, g_cat, nab, nba, g_subI, g_ixL, g_ixT, g_lt, g_le, g_gt, g_ge, fnM, env0, sSeq, sSet, sOwn, lDisp, aNil, eCall, eCallP, aCons, eVar, sFor, iSeq, loopM, noChk, asgN, asgT, setAll, sIf, bOf, bAnd, bOr, bNot, bYes, eOp, eL, lComp, compM, wipeE, oEqDD, ePeek, eqDD, flatD, eqGD, hitD, getG, eqFD, sApp, sFrz, frz, sRet, iKy, iKyT, oDx, oDxT, oInK, oInKT, dicG, keyD, keysD, keyT, keyV, getD, getDT, memT, eC, eBi, gLen, eIf, eTup, oIsN, oNotN, isNonD, dComp, dcM, putKD, putV, dCompT, dcMT, putKDT, putVT, eD, eDT, iEnm, enumD, eOr, eAnd, eNot, oEqLD, eqLD, oInLD, sDrop, sPar, Kd.run, eFld, fldD, eGetOT, eInOT, sPutT, sOwnT, sFrzT, frzT, sUnp, atI, ixN, eNeg, eVals, eMake, mapO, sNil, lT0, sPut, rgU1, rgU2, rg1, rg2, m_far_hour, b_far_hour, g] <;> kernel_rfl
theorem fa_2 (x : Int) (s : Sto) : m_far_hour [.lst [.lst [dA x]]] s = some (.int (1 - m2 x), s) := by
  have g : gMin [.lst [.int 0, .int x]] s = some (.int (m2 x)) := by
    show (match minL [0, x] with | some m => some (D.int m) | none => none) = _
    rw [m2_some]
  simp [g_lst, g_eqN, g_addI, g_addL, g_cat, nab, nba, g_subI, g_ixL, g_ixT, g_lt, g_le, g_gt, g_ge, fnM, env0, sSeq, sSet, sOwn, lDisp, aNil, eCall, eCallP, aCons, eVar, sFor, iSeq, loopM, noChk, asgN, asgT, setAll, sIf, bOf, bAnd, bOr, bNot, bYes, eOp, eL, lComp, compM, wipeE, oEqDD, ePeek, eqDD, flatD, eqGD, hitD, getG, eqFD, sApp, sFrz, frz, sRet, iKy, iKyT, oDx, oDxT, oInK, oInKT, dicG, keyD, keysD, keyT, keyV, getD, getDT, memT, eC, eBi, gLen, eIf, eTup, oIsN, oNotN, isNonD, dComp, dcM, putKD, putV, dCompT, dcMT, putKDT, putVT, eD, eDT, iEnm, enumD, eOr, eAnd, eNot, oEqLD, eqLD, oInLD, sDrop, sPar, Kd.run, eFld, fldD, eGetOT, eInOT, sPutT, sOwnT, sFrzT, frzT, sUnp, atI, ixN, eNeg, eVals, eMake, mapO, sNil, lT0, sPut, rgU1, rgU2, rg1, rg2, m_far_hour, b_far_hour, g] <;> kernel_rfl
theorem hf_2 (x f : Int) (s : Sto) : m_hours_for [dA x, .lst [.str "a", .str "b"], .int f] s = some (hrs (0 - x) f, s) := by kernel_rfl
theorem hf_1 (x f : Int) (s : Sto) : m_hours_for [dA x, .lst [.str "a"], .int f] s = some (dA (0 - x), s) := by kernel_rfl
theorem hf_ab (x y f : Int) (s : Sto) : m_hours_for [dAB x y, .lst [.str "a", .str "b"], .int f] s = some (hrs (0 - x) (0 - y), s) := by kernel_rfl
theorem st_ls (x y z : Int) (s : Sto) : m_standing [late x y, soon z] s = some (.lst [.str "a", .str "b"], s) := by kernel_rfl
theorem bh_ls (x y z : Int) (s : Sto) : m_behind_hours [late x y, soon z] s = some (hrs (0 - z) (1 - m4 x y z), s) := by
  simp [g_lst, g_eqN, g_addI, g_addL, g_cat, nab, nba, g_subI, g_ixL, g_ixT, g_lt, g_le, g_gt, g_ge, fnM, env0, sSeq, sSet, sOwn, lDisp, aNil, eCall, eCallP, aCons, eVar, sFor, iSeq, loopM, noChk, asgN, asgT, setAll, sIf, bOf, bAnd, bOr, bNot, bYes, eOp, eL, lComp, compM, wipeE, oEqDD, ePeek, eqDD, flatD, eqGD, hitD, getG, eqFD, sApp, sFrz, frz, sRet, iKy, iKyT, oDx, oDxT, oInK, oInKT, dicG, keyD, keysD, keyT, keyV, getD, getDT, memT, eC, eBi, gLen, eIf, eTup, oIsN, oNotN, isNonD, dComp, dcM, putKD, putV, dCompT, dcMT, putKDT, putVT, eD, eDT, iEnm, enumD, eOr, eAnd, eNot, oEqLD, eqLD, oInLD, sDrop, sPar, Kd.run, eFld, fldD, eGetOT, eInOT, sPutT, sOwnT, sFrzT, frzT, sUnp, atI, ixN, eNeg, eVals, eMake, mapO, sNil, lT0, sPut, rgU1, rgU2, rg1, rg2, m_behind_hours, b_behind_hours, cn_l, cn_o, wr_l, st_ls, fa_4, hf_2] <;> kernel_rfl
theorem bh_sl (x y z : Int) (s : Sto) (h : ¬ x < z) : m_behind_hours [soon z, late x y] s = some (.non, s) := by
  simp [g_lst, g_eqN, g_addI, g_addL, g_cat, nab, nba, g_subI, g_ixL, g_ixT, g_lt, g_le, g_gt, g_ge, fnM, env0, sSeq, sSet, sOwn, lDisp, aNil, eCall, eCallP, aCons, eVar, sFor, iSeq, loopM, noChk, asgN, asgT, setAll, sIf, bOf, bAnd, bOr, bNot, bYes, eOp, eL, lComp, compM, wipeE, oEqDD, ePeek, eqDD, flatD, eqGD, hitD, getG, eqFD, sApp, sFrz, frz, sRet, iKy, iKyT, oDx, oDxT, oInK, oInKT, dicG, keyD, keysD, keyT, keyV, getD, getDT, memT, eC, eBi, gLen, eIf, eTup, oIsN, oNotN, isNonD, dComp, dcM, putKD, putV, dCompT, dcMT, putKDT, putVT, eD, eDT, iEnm, enumD, eOr, eAnd, eNot, oEqLD, eqLD, oInLD, sDrop, sPar, Kd.run, eFld, fldD, eGetOT, eInOT, sPutT, sOwnT, sFrzT, frzT, sUnp, atI, ixN, eNeg, eVals, eMake, mapO, sNil, lT0, sPut, rgU1, rgU2, rg1, rg2, m_behind_hours, b_behind_hours, cn_l, cn_o, wr_s z x y s h] <;> kernel_rfl
theorem bh_ll (x y : Int) (s : Sto) : m_behind_hours [late x y, late x y] s = some (.non, s) := by
  simp [g_lst, g_eqN, g_addI, g_addL, g_cat, nab, nba, g_subI, g_ixL, g_ixT, g_lt, g_le, g_gt, g_ge, fnM, env0, sSeq, sSet, sOwn, lDisp, aNil, eCall, eCallP, aCons, eVar, sFor, iSeq, loopM, noChk, asgN, asgT, setAll, sIf, bOf, bAnd, bOr, bNot, bYes, eOp, eL, lComp, compM, wipeE, oEqDD, ePeek, eqDD, flatD, eqGD, hitD, getG, eqFD, sApp, sFrz, frz, sRet, iKy, iKyT, oDx, oDxT, oInK, oInKT, dicG, keyD, keysD, keyT, keyV, getD, getDT, memT, eC, eBi, gLen, eIf, eTup, oIsN, oNotN, isNonD, dComp, dcM, putKD, putV, dCompT, dcMT, putKDT, putVT, eD, eDT, iEnm, enumD, eOr, eAnd, eNot, oEqLD, eqLD, oInLD, sDrop, sPar, Kd.run, eFld, fldD, eGetOT, eInOT, sPutT, sOwnT, sFrzT, frzT, sUnp, atI, ixN, eNeg, eVals, eMake, mapO, sNil, lT0, sPut, rgU1, rgU2, rg1, rg2, m_behind_hours, b_behind_hours, cn_l, wr_ll] <;> kernel_rfl
theorem pa_ls (x y z : Int) (s : Sto) : m_parting [late x y, soon z] s = some (hrs (0 - z) (1 - m4 x y z), s) := by
  simp [g_lst, g_eqN, g_addI, g_addL, g_cat, nab, nba, g_subI, g_ixL, g_ixT, g_lt, g_le, g_gt, g_ge, fnM, env0, sSeq, sSet, sOwn, lDisp, aNil, eCall, eCallP, aCons, eVar, sFor, iSeq, loopM, noChk, asgN, asgT, setAll, sIf, bOf, bAnd, bOr, bNot, bYes, eOp, eL, lComp, compM, wipeE, oEqDD, ePeek, eqDD, flatD, eqGD, hitD, getG, eqFD, sApp, sFrz, frz, sRet, iKy, iKyT, oDx, oDxT, oInK, oInKT, dicG, keyD, keysD, keyT, keyV, getD, getDT, memT, eC, eBi, gLen, eIf, eTup, oIsN, oNotN, isNonD, dComp, dcM, putKD, putV, dCompT, dcMT, putKDT, putVT, eD, eDT, iEnm, enumD, eOr, eAnd, eNot, oEqLD, eqLD, oInLD, sDrop, sPar, Kd.run, eFld, fldD, eGetOT, eInOT, sPutT, sOwnT, sFrzT, frzT, sUnp, atI, ixN, eNeg, eVals, eMake, mapO, sNil, lT0, sPut, rgU1, rgU2, rg1, rg2, m_parting, b_parting, fl_l, fl_o, bh_ls] <;> kernel_rfl
theorem pa_ll (x y : Int) (s : Sto) : m_parting [late x y, late x y] s = some (.non, s) := by
  simp [g_lst, g_eqN, g_addI, g_addL, g_cat, nab, nba, g_subI, g_ixL, g_ixT, g_lt, g_le, g_gt, g_ge, fnM, env0, sSeq, sSet, sOwn, lDisp, aNil, eCall, eCallP, aCons, eVar, sFor, iSeq, loopM, noChk, asgN, asgT, setAll, sIf, bOf, bAnd, bOr, bNot, bYes, eOp, eL, lComp, compM, wipeE, oEqDD, ePeek, eqDD, flatD, eqGD, hitD, getG, eqFD, sApp, sFrz, frz, sRet, iKy, iKyT, oDx, oDxT, oInK, oInKT, dicG, keyD, keysD, keyT, keyV, getD, getDT, memT, eC, eBi, gLen, eIf, eTup, oIsN, oNotN, isNonD, dComp, dcM, putKD, putV, dCompT, dcMT, putKDT, putVT, eD, eDT, iEnm, enumD, eOr, eAnd, eNot, oEqLD, eqLD, oInLD, sDrop, sPar, Kd.run, eFld, fldD, eGetOT, eInOT, sPutT, sOwnT, sFrzT, frzT, sUnp, atI, ixN, eNeg, eVals, eMake, mapO, sNil, lT0, sPut, rgU1, rgU2, rg1, rg2, m_parting, b_parting, fl_l, bh_ll] <;> kernel_rfl
theorem ah_ls (x y z h k : Int) (s : Sto) : m_are_hours [late x y, soon z, hrs h k] s = some (.bl true, s) := by kernel_rfl
theorem lh_l (x y h k : Int) (s : Sto) : m_least_hour [.lst [dAB x y], hrs h k] s = some (.int (if k + y < h + x then h + x else k + y), s) := by kernel_rfl
theorem lh_s (x h k : Int) (s : Sto) : m_least_hour [.lst [dA x], hrs h k] s = some (.int (h + x), s) := by kernel_rfl
theorem lt_ls (x y z h k : Int) (s : Sto) : m_less_told [late x y, soon z, hrs h k] s = some (.int ((if k + y < h + x then h + x else k + y) - (h + z)), s) := by
  simp [g_lst, g_eqN, g_addI, g_addL, g_cat, nab, nba, g_subI, g_ixL, g_ixT, g_lt, g_le, g_gt, g_ge, fnM, env0, sSeq, sSet, sOwn, lDisp, aNil, eCall, eCallP, aCons, eVar, sFor, iSeq, loopM, noChk, asgN, asgT, setAll, sIf, bOf, bAnd, bOr, bNot, bYes, eOp, eL, lComp, compM, wipeE, oEqDD, ePeek, eqDD, flatD, eqGD, hitD, getG, eqFD, sApp, sFrz, frz, sRet, iKy, iKyT, oDx, oDxT, oInK, oInKT, dicG, keyD, keysD, keyT, keyV, getD, getDT, memT, eC, eBi, gLen, eIf, eTup, oIsN, oNotN, isNonD, dComp, dcM, putKD, putV, dCompT, dcMT, putKDT, putVT, eD, eDT, iEnm, enumD, eOr, eAnd, eNot, oEqLD, eqLD, oInLD, sDrop, sPar, Kd.run, eFld, fldD, eGetOT, eInOT, sPutT, sOwnT, sFrzT, frzT, sUnp, atI, ixN, eNeg, eVals, eMake, mapO, sNil, lT0, sPut, rgU1, rgU2, rg1, rg2, m_less_told, b_less_told, cn_l, cn_o, lh_l, lh_s] <;> kernel_rfl
theorem ne0 (i : Int) (s : Sto) : oNe (.int i) (.int 0) s = some (.bl (!decide (i = 0))) := by
  rw [oNe_eq (p := .int i) (q := .int 0) (by kernel_rfl) (by kernel_rfl)]
  by_cases h : i = 0
  · subst h; rfl
  · simp [PyData.eqv, h]
theorem cp_ls (x y z h k : Int) (s : Sto) (H : (if k + y < h + x then h + x else k + y) - (h + z) ≠ 0) : m_check_parting [late x y, soon z, hrs h k] s = some (.bl true, s) := by
  simp [g_lst, g_eqN, g_addI, g_addL, g_cat, nab, nba, g_subI, g_ixL, g_ixT, g_lt, g_le, g_gt, g_ge, fnM, env0, sSeq, sSet, sOwn, lDisp, aNil, eCall, eCallP, aCons, eVar, sFor, iSeq, loopM, noChk, asgN, asgT, setAll, sIf, bOf, bAnd, bOr, bNot, bYes, eOp, eL, lComp, compM, wipeE, oEqDD, ePeek, eqDD, flatD, eqGD, hitD, getG, eqFD, sApp, sFrz, frz, sRet, iKy, iKyT, oDx, oDxT, oInK, oInKT, dicG, keyD, keysD, keyT, keyV, getD, getDT, memT, eC, eBi, gLen, eIf, eTup, oIsN, oNotN, isNonD, dComp, dcM, putKD, putV, dCompT, dcMT, putKDT, putVT, eD, eDT, iEnm, enumD, eOr, eAnd, eNot, oEqLD, eqLD, oInLD, sDrop, sPar, Kd.run, eFld, fldD, eGetOT, eInOT, sPutT, sOwnT, sFrzT, frzT, sUnp, atI, ixN, eNeg, eVals, eMake, mapO, sNil, lT0, sPut, rgU1, rgU2, rg1, rg2, m_check_parting, b_check_parting, fl_l, fl_o, ah_ls, lt_ls, ne0, H] <;> kernel_rfl
/-! reasons -/
theorem rs_sl (x y z : Int) (s : Sto) (h : ¬ x < z) : m_reasons [soon z, late x y] s = some (.tup [.str "never", .lst [.tup [.lst [tA x, tB y], .lst [tA z]]]], s) := by
  simp [g_lst, g_eqN, g_addI, g_addL, g_cat, nab, nba, g_subI, g_ixL, g_ixT, g_lt, g_le, g_gt, g_ge, fnM, env0, sSeq, sSet, sOwn, lDisp, aNil, eCall, eCallP, aCons, eVar, sFor, iSeq, loopM, noChk, asgN, asgT, setAll, sIf, bOf, bAnd, bOr, bNot, bYes, eOp, eL, lComp, compM, wipeE, oEqDD, ePeek, eqDD, flatD, eqGD, hitD, getG, eqFD, sApp, sFrz, frz, sRet, iKy, iKyT, oDx, oDxT, oInK, oInKT, dicG, keyD, keysD, keyT, keyV, getD, getDT, memT, eC, eBi, gLen, eIf, eTup, oIsN, oNotN, isNonD, dComp, dcM, putKD, putV, dCompT, dcMT, putKDT, putVT, eD, eDT, iEnm, enumD, eOr, eAnd, eNot, oEqLD, eqLD, oInLD, sDrop, sPar, Kd.run, eFld, fldD, eGetOT, eInOT, sPutT, sOwnT, sFrzT, frzT, sUnp, atI, ixN, eNeg, eVals, eMake, mapO, sNil, lT0, sPut, rgU1, rgU2, rg1, rg2, m_reasons, b_reasons, fl_l, fl_o, bh_sl x y z s h, cn_l, cn_o, rw_ab, rw_a, w_oa z x y s h] <;> kernel_rfl
theorem rs_ls (x y z : Int) (s : Sto) : m_reasons [late x y, soon z] s = some (.tup [.str "behind", hrs (0 - z) (1 - m4 x y z)], s) := by
  simp [g_lst, g_eqN, g_addI, g_addL, g_cat, nab, nba, g_subI, g_ixL, g_ixT, g_lt, g_le, g_gt, g_ge, fnM, env0, sSeq, sSet, sOwn, lDisp, aNil, eCall, eCallP, aCons, eVar, sFor, iSeq, loopM, noChk, asgN, asgT, setAll, sIf, bOf, bAnd, bOr, bNot, bYes, eOp, eL, lComp, compM, wipeE, oEqDD, ePeek, eqDD, flatD, eqGD, hitD, getG, eqFD, sApp, sFrz, frz, sRet, iKy, iKyT, oDx, oDxT, oInK, oInKT, dicG, keyD, keysD, keyT, keyV, getD, getDT, memT, eC, eBi, gLen, eIf, eTup, oIsN, oNotN, isNonD, dComp, dcM, putKD, putV, dCompT, dcMT, putKDT, putVT, eD, eDT, iEnm, enumD, eOr, eAnd, eNot, oEqLD, eqLD, oInLD, sDrop, sPar, Kd.run, eFld, fldD, eGetOT, eInOT, sPutT, sOwnT, sFrzT, frzT, sUnp, atI, ixN, eNeg, eVals, eMake, mapO, sNil, lT0, sPut, rgU1, rgU2, rg1, rg2, m_reasons, b_reasons, fl_l, fl_o, bh_ls] <;> kernel_rfl
abbrev pr (x y z : Int) : D := .tup [.lst [tA x, tB y], .lst [tA z]]
theorem ir_ab (x y : Int) (s : Sto) : m_is_row [.lst [tA x, tB y]] s = some (.bl true, s) := by kernel_rfl
theorem ir_a (x : Int) (s : Sto) : m_is_row [.lst [tA x]] s = some (.bl true, s) := by kernel_rfl
theorem ip (x y z : Int) (s : Sto) (h : ¬ x < z) : m_is_pair [.lst [dA z], dAB x y, pr x y z] s = some (.bl true, s) := by
  have g : gIsi CS [pr x y z, .ty "tuple"] s = some (.bl true) := by kernel_rfl
  have g2 : oNe (.int 2) (.int 2) s = some (.bl false) := by kernel_rfl
  simp [g_lst, g_eqN, g_addI, g_addL, g_cat, nab, nba, g_subI, g_ixL, g_ixT, g_lt, g_le, g_gt, g_ge, fnM, env0, sSeq, sSet, sOwn, lDisp, aNil, eCall, eCallP, aCons, eVar, sFor, iSeq, loopM, noChk, asgN, asgT, setAll, sIf, bOf, bAnd, bOr, bNot, bYes, eOp, eL, lComp, compM, wipeE, oEqDD, ePeek, eqDD, flatD, eqGD, hitD, getG, eqFD, sApp, sFrz, frz, sRet, iKy, iKyT, oDx, oDxT, oInK, oInKT, dicG, keyD, keysD, keyT, keyV, getD, getDT, memT, eC, eBi, gLen, eIf, eTup, oIsN, oNotN, isNonD, dComp, dcM, putKD, putV, dCompT, dcMT, putKDT, putVT, eD, eDT, iEnm, enumD, eOr, eAnd, eNot, oEqLD, eqLD, oInLD, sDrop, sPar, Kd.run, eFld, fldD, eGetOT, eInOT, sPutT, sOwnT, sFrzT, frzT, sUnp, atI, ixN, eNeg, eVals, eMake, mapO, sNil, lT0, sPut, rgU1, rgU2, rg1, rg2, m_is_pair, b_is_pair, g, g2, ir_ab, ir_a, do_a, do_ab, w_oa z x y s h] <;> kernel_rfl
theorem isr_sl (x y z : Int) (s : Sto) (h : ¬ x < z) : m_is_reasons [soon z, late x y, .tup [.str "never", .lst [pr x y z]]] s = some (.bl true, s) := by
  have g : gIsi CS [.tup [.str "never", .lst [pr x y z]], .ty "tuple"] s = some (.bl true) := by kernel_rfl
  have g1 : gIsi CS [.str "never", .ty "str"] s = some (.bl true) := by kernel_rfl
  have g2 : oNe (.int 2) (.int 2) s = some (.bl false) := by kernel_rfl
  have g3 : oEq (.str "never") (.str "behind") s = some (.bl false) := by kernel_rfl
  have g4 : oNe (.str "never") (.str "never") s = some (.bl false) := by kernel_rfl
  have g5 : gIsi CS [.lst [pr x y z], .ty "list"] s = some (.bl true) := by kernel_rfl
  have g6 : oNe (.int 1) (.int 1) s = some (.bl false) := by kernel_rfl
  simp [g_lst, g_eqN, g_addI, g_addL, g_cat, nab, nba, g_subI, g_ixL, g_ixT, g_lt, g_le, g_gt, g_ge, fnM, env0, sSeq, sSet, sOwn, lDisp, aNil, eCall, eCallP, aCons, eVar, sFor, iSeq, loopM, noChk, asgN, asgT, setAll, sIf, bOf, bAnd, bOr, bNot, bYes, eOp, eL, lComp, compM, wipeE, oEqDD, ePeek, eqDD, flatD, eqGD, hitD, getG, eqFD, sApp, sFrz, frz, sRet, iKy, iKyT, oDx, oDxT, oInK, oInKT, dicG, keyD, keysD, keyT, keyV, getD, getDT, memT, eC, eBi, gLen, eIf, eTup, oIsN, oNotN, isNonD, dComp, dcM, putKD, putV, dCompT, dcMT, putKDT, putVT, eD, eDT, iEnm, enumD, eOr, eAnd, eNot, oEqLD, eqLD, oInLD, sDrop, sPar, Kd.run, eFld, fldD, eGetOT, eInOT, sPutT, sOwnT, sFrzT, frzT, sUnp, atI, ixN, eNeg, eVals, eMake, mapO, sNil, lT0, sPut, rgU1, rgU2, rg1, rg2, m_is_reasons, b_is_reasons, fl_l, fl_o, cn_l, cn_o, g, g1, g2, g3, g4, g5, g6, ip x y z s h] <;> kernel_rfl
theorem isr_ls (x y z h k : Int) (s : Sto) (H : 0 < (if k + y < h + x then h + x else k + y) - (h + z)) : m_is_reasons [late x y, soon z, .tup [.str "behind", hrs h k]] s = some (.bl true, s) := by
  have g : gIsi CS [.tup [.str "behind", hrs h k], .ty "tuple"] s = some (.bl true) := by kernel_rfl
  have g1 : gIsi CS [.str "behind", .ty "str"] s = some (.bl true) := by kernel_rfl
  have g2 : oNe (.int 2) (.int 2) s = some (.bl false) := by kernel_rfl
  have g3 : oEq (.str "behind") (.str "behind") s = some (.bl true) := by kernel_rfl
  have g4 : oGt (.int ((if k + y < h + x then h + x else k + y) - (h + z))) (.int 0) s = some (.bl true) := by
    rw [g_gt, decide_eq_true H]
  simp [g_lst, g_eqN, g_addI, g_addL, g_cat, nab, nba, g_subI, g_ixL, g_ixT, g_lt, g_le, g_gt, g_ge, fnM, env0, sSeq, sSet, sOwn, lDisp, aNil, eCall, eCallP, aCons, eVar, sFor, iSeq, loopM, noChk, asgN, asgT, setAll, sIf, bOf, bAnd, bOr, bNot, bYes, eOp, eL, lComp, compM, wipeE, oEqDD, ePeek, eqDD, flatD, eqGD, hitD, getG, eqFD, sApp, sFrz, frz, sRet, iKy, iKyT, oDx, oDxT, oInK, oInKT, dicG, keyD, keysD, keyT, keyV, getD, getDT, memT, eC, eBi, gLen, eIf, eTup, oIsN, oNotN, isNonD, dComp, dcM, putKD, putV, dCompT, dcMT, putKDT, putVT, eD, eDT, iEnm, enumD, eOr, eAnd, eNot, oEqLD, eqLD, oInLD, sDrop, sPar, Kd.run, eFld, fldD, eGetOT, eInOT, sPutT, sOwnT, sFrzT, frzT, sUnp, atI, ixN, eNeg, eVals, eMake, mapO, sNil, lT0, sPut, rgU1, rgU2, rg1, rg2, m_is_reasons, b_is_reasons, fl_l, fl_o, g, g1, g2, g3, ah_ls, lt_ls, g4] <;> kernel_rfl
/-! slack -/
abbrev nA (x : Int) : D := .dit [[.inr "now", .inr "a"]] [.int x]
abbrev lofA (x : Int) : D := .dit [kA] [.int x]
abbrev mkN : D := .tup [.str "now", .str "a"]
abbrev mkO : D := .tup [.str "of", .str "a"]
theorem wi_0 (r : D) (s : Sto) : m_is_within_t [.dit [] [], .dit [] []] s = some (.bl true, s) := by kernel_rfl
theorem wi_0o (x : Int) (s : Sto) : m_is_within_t [.dit [] [], lofA x] s = some (.bl true, s) := by kernel_rfl
theorem mo_1 (x : Int) (s : Sto) : m_most_or_none [.lst [.int x]] s = some (.int x, s) := by kernel_rfl
theorem lo_1 (x : Int) (s : Sto) : m_least_or_none [.lst [.int x]] s = some (.int x, s) := by kernel_rfl
theorem ls_1 (x : Int) (s : Sto) : m_less_of [nA 0, mkN, mkO, .int x, .lst [lofA x]] s = some (.int (x - x), s) := by
  have g1 : oNe mkN mkN s = some (.bl false) := by kernel_rfl
  have g2 : oNe mkO mkO s = some (.bl false) := by kernel_rfl
  simp [g_lst, g_eqN, g_addI, g_addL, g_cat, nab, nba, g_subI, g_ixL, g_ixT, g_lt, g_le, g_gt, g_ge, fnM, env0, sSeq, sSet, sOwn, lDisp, aNil, eCall, eCallP, aCons, eVar, sFor, iSeq, loopM, noChk, asgN, asgT, setAll, sIf, bOf, bAnd, bOr, bNot, bYes, eOp, eL, lComp, compM, wipeE, oEqDD, ePeek, eqDD, flatD, eqGD, hitD, getG, eqFD, sApp, sFrz, frz, sRet, iKy, iKyT, oDx, oDxT, oInK, oInKT, dicG, keyD, keysD, keyT, keyV, getD, getDT, memT, eC, eBi, gLen, eIf, eTup, oIsN, oNotN, isNonD, dComp, dcM, putKD, putV, dCompT, dcMT, putKDT, putVT, eD, eDT, iEnm, enumD, eOr, eAnd, eNot, oEqLD, eqLD, oInLD, sDrop, sPar, Kd.run, eFld, fldD, eGetOT, eInOT, sPutT, sOwnT, sFrzT, frzT, sUnp, atI, ixN, eNeg, eVals, eMake, mapO, sNil, lT0, sPut, rgU1, rgU2, rg1, rg2, m_less_of, b_less_of, g1, g2, wi_0, mo_1] <;> kernel_rfl
theorem ms_1 (x : Int) (s : Sto) : m_more_of [lofA x, mkN, mkO, .int x, .lst [nA 0]] s = some (.int (x - x), s) := by
  have g1 : oNe mkN mkN s = some (.bl false) := by kernel_rfl
  simp [g_lst, g_eqN, g_addI, g_addL, g_cat, nab, nba, g_subI, g_ixL, g_ixT, g_lt, g_le, g_gt, g_ge, fnM, env0, sSeq, sSet, sOwn, lDisp, aNil, eCall, eCallP, aCons, eVar, sFor, iSeq, loopM, noChk, asgN, asgT, setAll, sIf, bOf, bAnd, bOr, bNot, bYes, eOp, eL, lComp, compM, wipeE, oEqDD, ePeek, eqDD, flatD, eqGD, hitD, getG, eqFD, sApp, sFrz, frz, sRet, iKy, iKyT, oDx, oDxT, oInK, oInKT, dicG, keyD, keysD, keyT, keyV, getD, getDT, memT, eC, eBi, gLen, eIf, eTup, oIsN, oNotN, isNonD, dComp, dcM, putKD, putV, dCompT, dcMT, putKDT, putVT, eD, eDT, iEnm, enumD, eOr, eAnd, eNot, oEqLD, eqLD, oInLD, sDrop, sPar, Kd.run, eFld, fldD, eGetOT, eInOT, sPutT, sOwnT, sFrzT, frzT, sUnp, atI, ixN, eNeg, eVals, eMake, mapO, sNil, lT0, sPut, rgU1, rgU2, rg1, rg2, m_more_of, b_more_of, g1, wi_0o, mo_1] <;> kernel_rfl
theorem mt_1 (x : Int) (s : Sto) : m_marked_term [tO "a" x, .tup []] s = some (.tup [.str "now", .str "a", .int 0], s) := by kernel_rfl
theorem so_1 (x : Int) (s : Sto) : m_slack_of [soon x, .tup [], tO "a" x] s = some (.tup [.tup [], .int (x - x), .int (x - x)], s) := by
  simp [g_lst, g_eqN, g_addI, g_addL, g_cat, nab, nba, g_subI, g_ixL, g_ixT, g_lt, g_le, g_gt, g_ge, fnM, env0, sSeq, sSet, sOwn, lDisp, aNil, eCall, eCallP, aCons, eVar, sFor, iSeq, loopM, noChk, asgN, asgT, setAll, sIf, bOf, bAnd, bOr, bNot, bYes, eOp, eL, lComp, compM, wipeE, oEqDD, ePeek, eqDD, flatD, eqGD, hitD, getG, eqFD, sApp, sFrz, frz, sRet, iKy, iKyT, oDx, oDxT, oInK, oInKT, dicG, keyD, keysD, keyT, keyV, getD, getDT, memT, eC, eBi, gLen, eIf, eTup, oIsN, oNotN, isNonD, dComp, dcM, putKD, putV, dCompT, dcMT, putKDT, putVT, eD, eDT, iEnm, enumD, eOr, eAnd, eNot, oEqLD, eqLD, oInLD, sDrop, sPar, Kd.run, eFld, fldD, eGetOT, eInOT, sPutT, sOwnT, sFrzT, frzT, sUnp, atI, ixN, eNeg, eVals, eMake, mapO, sNil, lT0, sPut, rgU1, rgU2, rg1, rg2, m_slack_of, b_slack_of, lr_o, mt_1, lr_n, ls_1, ms_1, lo_1] <;> kernel_rfl
theorem pf_1 (x : Int) (s : Sto) : m_parts_from [tO "a" x, .tup []] s = some (.lst [.tup [.tup [], tO "a" x]], s) := by kernel_rfl
theorem sl_1 (x : Int) (s : Sto) : m_slack [soon x] s = some (.lst [.tup [.tup [], .int (x - x), .int (x - x)]], s) := by
  simp [g_lst, g_eqN, g_addI, g_addL, g_cat, nab, nba, g_subI, g_ixL, g_ixT, g_lt, g_le, g_gt, g_ge, fnM, env0, sSeq, sSet, sOwn, lDisp, aNil, eCall, eCallP, aCons, eVar, sFor, iSeq, loopM, noChk, asgN, asgT, setAll, sIf, bOf, bAnd, bOr, bNot, bYes, eOp, eL, lComp, compM, wipeE, oEqDD, ePeek, eqDD, flatD, eqGD, hitD, getG, eqFD, sApp, sFrz, frz, sRet, iKy, iKyT, oDx, oDxT, oInK, oInKT, dicG, keyD, keysD, keyT, keyV, getD, getDT, memT, eC, eBi, gLen, eIf, eTup, oIsN, oNotN, isNonD, dComp, dcM, putKD, putV, dCompT, dcMT, putKDT, putVT, eD, eDT, iEnm, enumD, eOr, eAnd, eNot, oEqLD, eqLD, oInLD, sDrop, sPar, Kd.run, eFld, fldD, eGetOT, eInOT, sPutT, sOwnT, sFrzT, frzT, sUnp, atI, ixN, eNeg, eVals, eMake, mapO, sNil, lT0, sPut, rgU1, rgU2, rg1, rg2, m_slack, b_slack, fl_o, pf_1, so_1] <;> kernel_rfl
/-! lean -/
theorem srt2r {x y : D} {s : Sto} {p q : PyData} (hx : toPy 60 s x = some p) (hy : toPy 60 s y = some q) (ha : alikes [p, q] = true) (hb : sortB [p, q] = true) (hl : PySem.W.dataLe false (fun d => d) p q = false) : gSortX [.lst [x, y]] s = some [y, x] := by
  have ex : encD s x = p := by unfold encD; rw [hx]; rfl
  have ey : encD s y = q := by unfold encD; rw [hy]; rfl
  have hl' : PySem.W.dataLe false (encD s) x y = false := by
    show PySem.W.dataLe false (fun d => d) (encD s x) (encD s y) = false
    rw [ex, ey]
    exact hl
  show (if ([x, y].all fun d => (toPy 60 s d).isSome) = true ∧ alikes ([x, y].map (encD s)) = true ∧ sortB ([x, y].map (encD s)) = true then some ([x, y].mergeSort (PySem.W.dataLe false (encD s))) else none) = _
  rw [if_pos ⟨by simp [hx, hy], by simpa [ex, ey] using ha, by simpa [ex, ey] using hb⟩]
  simp [List.mergeSort, List.MergeSort.Internal.splitInTwo, List.merge, hl']
theorem lots_1 (s : Sto) : m_lots_by_size [.lst [.tup []]] s = some (.lst [.lst [.tup []], .lst []], s) := by
  have g : gSortX [.lst [.tup [.int 0, .lst []], .tup [.int (-1), .lst [.tup []]]]] s = some [.tup [.int (-1), .lst [.tup []]], .tup [.int 0, .lst []]] :=
    srt2r (p := .tuple [.int 0, .list []]) (q := .tuple [.int (-1), .list [.tuple []]]) (by kernel_rfl) (by kernel_rfl) (by kernel_rfl) (by kernel_rfl) (by kernel_rfl)
  simp [g_lst, g_eqN, g_addI, g_addL, g_cat, nab, nba, g_subI, g_ixL, g_ixT, g_lt, g_le, g_gt, g_ge, fnM, env0, sSeq, sSet, sOwn, lDisp, aNil, eCall, eCallP, aCons, eVar, sFor, iSeq, loopM, noChk, asgN, asgT, setAll, sIf, bOf, bAnd, bOr, bNot, bYes, eOp, eL, lComp, compM, wipeE, oEqDD, ePeek, eqDD, flatD, eqGD, hitD, getG, eqFD, sApp, sFrz, frz, sRet, iKy, iKyT, oDx, oDxT, oInK, oInKT, dicG, keyD, keysD, keyT, keyV, getD, getDT, memT, eC, eBi, gLen, eIf, eTup, oIsN, oNotN, isNonD, dComp, dcM, putKD, putV, dCompT, dcMT, putKDT, putVT, eD, eDT, iEnm, enumD, eOr, eAnd, eNot, oEqLD, eqLD, oInLD, sDrop, sPar, Kd.run, eFld, fldD, eGetOT, eInOT, sPutT, sOwnT, sFrzT, frzT, sUnp, atI, ixN, eNeg, eVals, eMake, mapO, sNil, lT0, sPut, rgU1, rgU2, rg1, rg2, m_lots_by_size, b_lots_by_size, g] <;> kernel_rfl
theorem lft_1 (x : Int) (s : Sto) : m_left_term [tO "a" x, .tup [], .lst []] s = some (tO "a" x, s) := by kernel_rfl
theorem lean_1 (x : Int) (s : Sto) : m_lean [soon x] s = some (soon x, s) := by
  simp [g_lst, g_eqN, g_addI, g_addL, g_cat, nab, nba, g_subI, g_ixL, g_ixT, g_lt, g_le, g_gt, g_ge, fnM, env0, sSeq, sSet, sOwn, lDisp, aNil, eCall, eCallP, aCons, eVar, sFor, iSeq, loopM, noChk, asgN, asgT, setAll, sIf, bOf, bAnd, bOr, bNot, bYes, eOp, eL, lComp, compM, wipeE, oEqDD, ePeek, eqDD, flatD, eqGD, hitD, getG, eqFD, sApp, sFrz, frz, sRet, iKy, iKyT, oDx, oDxT, oInK, oInKT, dicG, keyD, keysD, keyT, keyV, getD, getDT, memT, eC, eBi, gLen, eIf, eTup, oIsN, oNotN, isNonD, dComp, dcM, putKD, putV, dCompT, dcMT, putKDT, putVT, eD, eDT, iEnm, enumD, eOr, eAnd, eNot, oEqLD, eqLD, oInLD, sDrop, sPar, Kd.run, eFld, fldD, eGetOT, eInOT, sPutT, sOwnT, sFrzT, frzT, sUnp, atI, ixN, eNeg, eVals, eMake, mapO, sNil, lT0, sPut, rgU1, rgU2, rg1, rg2, m_lean, b_lean, fl_o, cn_o, pf_1, lots_1, lft_1, nr_o, mk_o] <;> kernel_rfl
/-! telling, alone -/
theorem ch_ab (h k : Int) (s : Sto) : m_check_hours [hrs h k, .lst [.str "a", .str "b"]] s = some (.non, s) := by kernel_rfl
theorem rh_l (x y h k : Int) (s : Sto) : m_row_hour [dAB x y, hrs h k] s = some (.int (if k + y < h + x then h + x else k + y), s) := by kernel_rfl
theorem te_l (x y h k : Int) (s : Sto) : m_telling [late x y, hrs h k] s = some (.lst [.lst [tA x, tB y]], s) := by
  have g : oEq (.int (if k + y < h + x then h + x else k + y)) (.int (if k + y < h + x then h + x else k + y)) s = some (.bl true) := by
    generalize (if k + y < h + x then h + x else k + y) = i
    rw [oEq_eq (p := .int i) (q := .int i) (by kernel_rfl) (by kernel_rfl)]
    simp [PyData.eqv]
  simp [g_lst, g_eqN, g_addI, g_addL, g_cat, nab, nba, g_subI, g_ixL, g_ixT, g_lt, g_le, g_gt, g_ge, fnM, env0, sSeq, sSet, sOwn, lDisp, aNil, eCall, eCallP, aCons, eVar, sFor, iSeq, loopM, noChk, asgN, asgT, setAll, sIf, bOf, bAnd, bOr, bNot, bYes, eOp, eL, lComp, compM, wipeE, oEqDD, ePeek, eqDD, flatD, eqGD, hitD, getG, eqFD, sApp, sFrz, frz, sRet, iKy, iKyT, oDx, oDxT, oInK, oInKT, dicG, keyD, keysD, keyT, keyV, getD, getDT, memT, eC, eBi, gLen, eIf, eTup, oIsN, oNotN, isNonD, dComp, dcM, putKD, putV, dCompT, dcMT, putKDT, putVT, eD, eDT, iEnm, enumD, eOr, eAnd, eNot, oEqLD, eqLD, oInLD, sDrop, sPar, Kd.run, eFld, fldD, eGetOT, eInOT, sPutT, sOwnT, sFrzT, frzT, sUnp, atI, ixN, eNeg, eVals, eMake, mapO, sNil, lT0, sPut, rgU1, rgU2, rg1, rg2, m_telling, b_telling, fl_l, nb_l, ch_ab, cn_l, lh_l, rh_l, g, rw_ab] <;> kernel_rfl
theorem an_s (x : Int) (s : Sto) : m_alone [.obj "Rule" ["form"] [tO "a" x], .lst [tA x]] s = some (dA (0 - x), s) := by
  simp [g_lst, g_eqN, g_addI, g_addL, g_cat, nab, nba, g_subI, g_ixL, g_ixT, g_lt, g_le, g_gt, g_ge, fnM, env0, sSeq, sSet, sOwn, lDisp, aNil, eCall, eCallP, aCons, eVar, sFor, iSeq, loopM, noChk, asgN, asgT, setAll, sIf, bOf, bAnd, bOr, bNot, bYes, eOp, eL, lComp, compM, wipeE, oEqDD, ePeek, eqDD, flatD, eqGD, hitD, getG, eqFD, sApp, sFrz, frz, sRet, iKy, iKyT, oDx, oDxT, oInK, oInKT, dicG, keyD, keysD, keyT, keyV, getD, getDT, memT, eC, eBi, gLen, eIf, eTup, oIsN, oNotN, isNonD, dComp, dcM, putKD, putV, dCompT, dcMT, putKDT, putVT, eD, eDT, iEnm, enumD, eOr, eAnd, eNot, oEqLD, eqLD, oInLD, sDrop, sPar, Kd.run, eFld, fldD, eGetOT, eInOT, sPutT, sOwnT, sFrzT, frzT, sUnp, atI, ixN, eNeg, eVals, eMake, mapO, sNil, lT0, sPut, rgU1, rgU2, rg1, rg2, m_alone, b_alone, fl_o, cn_o, ir_a, do_a, nb_o, fa_2, hf_1] <;> kernel_rfl
theorem an_l (x y : Int) (s : Sto) : m_alone [late x y, .lst [tA x, tB y]] s = some (hrs (0 - x) (0 - y), s) := by
  simp [g_lst, g_eqN, g_addI, g_addL, g_cat, nab, nba, g_subI, g_ixL, g_ixT, g_lt, g_le, g_gt, g_ge, fnM, env0, sSeq, sSet, sOwn, lDisp, aNil, eCall, eCallP, aCons, eVar, sFor, iSeq, loopM, noChk, asgN, asgT, setAll, sIf, bOf, bAnd, bOr, bNot, bYes, eOp, eL, lComp, compM, wipeE, oEqDD, ePeek, eqDD, flatD, eqGD, hitD, getG, eqFD, sApp, sFrz, frz, sRet, iKy, iKyT, oDx, oDxT, oInK, oInKT, dicG, keyD, keysD, keyT, keyV, getD, getDT, memT, eC, eBi, gLen, eIf, eTup, oIsN, oNotN, isNonD, dComp, dcM, putKD, putV, dCompT, dcMT, putKDT, putVT, eD, eDT, iEnm, enumD, eOr, eAnd, eNot, oEqLD, eqLD, oInLD, sDrop, sPar, Kd.run, eFld, fldD, eGetOT, eInOT, sPutT, sOwnT, sFrzT, frzT, sUnp, atI, ixN, eNeg, eVals, eMake, mapO, sNil, lT0, sPut, rgU1, rgU2, rg1, rg2, m_alone, b_alone, fl_l, cn_l, ir_ab, do_ab, nb_l, fa_3, hf_ab] <;> kernel_rfl
end K14

/-! S14: the law's one turn, the law. -/
namespace K14
open PySem L2 LW
local macro_rules | `(tactic| bv_omega) => `(tactic| (repeat (first | with_reducible first | refine z_var (by with_unfolding_all rfl) ?_ | refine z_pk (by with_unfolding_all rfl) ?_ | refine z_pkO (by with_unfolding_all rfl) ?_ | refine z_retO (by with_unfolding_all rfl) ?_ | refine z_dictO (by with_unfolding_all rfl) ?_ | refine z_c ?_ | refine z_op ?_ | refine z_nil ?_ | refine z_cons ?_ | refine z_tup ?_ | refine z_lst ?_ | refine z_L ?_ | refine z_bi ?_ | refine z_call ?_ | refine z_meth ?_ | refine z_prop ?_ | refine z_fld ?_ | refine z_make ?_ | refine z_not ?_ | refine z_neg ?_ | refine z_bits ?_ | refine t_of ?_ | refine t_not ?_ | refine z_slN ?_ | refine z_oN ?_ | refine z_oS ?_ | refine z_snil ?_ | refine z_seq ?_ | refine z_set ?_ | refine z_own ?_ | refine z_ret ?_ | refine z_retC ?_ | refine z_drop ?_ | refine z_frz ?_ | refine z_app ?_ | refine z_appC ?_ | refine z_putC ?_ | refine z_for ?_ | refine z_lc ?_ | refine z_yes ?_ | refine z_kv ?_ | refine z_ko ?_ | refine z_par ?_ | refine z_unp ?_ | refine z_sfld ?_ | refine z_rg1 ?_ | refine z_rg2 ?_ | refine z_rg3 ?_ | refine z_and ?_ | refine z_or ?_ | refine z_eif ?_ | refine t_and ?_ | refine t_or ?_ | refine z_sif ?_ | refine u_add ?_ | refine u_sub ?_ | refine u_lt ?_ | refine u_le ?_ | refine u_gt ?_ | refine u_ge ?_ | refine u_isN ?_ | refine u_notN ?_ | refine z_par3 ?_ | refine z_dcl ?_ | refine z_cel ?_ | refine z_putDC ?_ | refine z_clrC ?_ | refine z_ownD ?_ | refine z_lenSN ?_ | refine z_D ?_ | refine z_dComp ?_ | refine z_lc2 ?_ | refine z_sn ?_ | refine z_makeC ?_ | refine z_methC ?_ | refine z_fldC ?_ | refine z_sfldC ?_ | refine z_xSet ?_ | refine z_methX ?_ | refine z_methCX ?_ | refine z_xIfE ?_ | refine z_xEL ?_ | refine z_xPar2 (by decide) ?_ | refine z_kD2 ?_ | refine z_par2 (by decide) ?_ | refine z_d0 ?_ | refine z_xBare ?_ | refine z_xFrz ?_ | refine z_xFor ?_ | refine z_sortIt ?_ | refine z_lenO ?_ | refine z_xSeq ?_ | refine z_xIf ?_ | refine z_xRaise ?_ | refine z_xL ?_ | refine z_xNil ?_ | refine z_xDrop ?_ | refine z_xRet ?_ | refine z_eCallX ?_ | refine z_sTry ?_ | refine z_DT ?_ | refine z_t0 ?_ | refine z_Td ?_ | refine z_ownT ?_ | refine z_putT ?_ | refine z_frzT ?_ | refine z_par3T ?_ | refine z_toT ?_ | refine z_join ?_ | refine z_sw3 ?_ | refine z_err ?_ | refine z_err0 ?_ | refine z_errB ?_ | (with_reducible refine u_mul ?_ ?_; next => first | exact mulC_r (by decide) (by decide) | exact mulC_l (by decide) (by decide) | exact mulC_r (by omega) (by omega) | exact mulC_l (by omega) (by omega)) | (with_reducible refine u_mod ?_ ?_; next => first | decide | assumption | omega) | (with_reducible refine u_div ?_ ?_; next => first | exact divC_s (by decide) (by decide) | exact divC_s (by omega) (by omega)))))
abbrev row1 (n : Int) : D := .lst [tA (1 + n), tB n]
theorem eqn_seen (n : Int) (s : Sto) : oNe (.lst [.lst [row1 n], .lst [.str "a", .str "b"], .lst [.lst [tA (0 - (0 - (1 + n)))], .lst [tB (0 - (0 - n))]], .bl true]) (.lst [.lst [row1 n], .lst [.str "a", .str "b"], .lst [.lst [tA (1 + n)], .lst [tB n]], .bl true]) s = some (.bl false) := by
  have e1 : (0 - (0 - (1 + n))) = 1 + n := by omega
  have e2 : (0 - (0 - n)) = n := by omega
  rw [e1, e2, oNe_eq (p := .list [.list [.list [.tuple [.str "a", .int (1 + n)], .tuple [.str "b", .int n]]], .list [.str "a", .str "b"], .list [.list [.tuple [.str "a", .int (1 + n)]], .list [.tuple [.str "b", .int n]]], .bool true]) (q := .list [.list [.list [.tuple [.str "a", .int (1 + n)], .tuple [.str "b", .int n]]], .list [.str "a", .str "b"], .list [.list [.tuple [.str "a", .int (1 + n)]], .list [.tuple [.str "b", .int n]]], .bool true]) (by kernel_rfl) (by kernel_rfl)]
  simp [PyData.eqv, PyData.eqvAll]
theorem eqn_why (n : Int) (s : Sto) : oNe (.tup [.str "never", .lst [.tup [row1 n, .lst [tA n]]]]) (.tup [.str "never", .lst [.tup [row1 n, .lst [tA n]]]]) s = some (.bl false) := by
  rw [oNe_eq (p := .tuple [.str "never", .list [.tuple [.list [.tuple [.str "a", .int (1 + n)], .tuple [.str "b", .int n]], .list [.tuple [.str "a", .int n]]]]]) (q := .tuple [.str "never", .list [.tuple [.list [.tuple [.str "a", .int (1 + n)], .tuple [.str "b", .int n]], .list [.tuple [.str "a", .int n]]]]]) (by kernel_rfl) (by kernel_rfl)]
  simp [PyData.eqv, PyData.eqvAll]
theorem eqn_slack (n : Int) (s : Sto) : oNe (.lst [.tup [.tup [], .int (n - n), .int (n - n)]]) (.lst [.tup [.tup [], .int 0, .int 0]]) s = some (.bl false) := by
  have e1 : n - n = 0 := by omega
  rw [e1]
  kernel_rfl
theorem eqn_line (n : Int) (s : Sto) : oNe (.lst [row1 n]) (.lst [row1 n]) s = some (.bl false) := by
  rw [oNe_eq (p := .list [.list [.tuple [.str "a", .int (1 + n)], .tuple [.str "b", .int n]]]) (q := .list [.list [.tuple [.str "a", .int (1 + n)], .tuple [.str "b", .int n]]]) (by kernel_rfl) (by kernel_rfl)]
  simp [PyData.eqv, PyData.eqvAll]
theorem gap (n : Int) : 0 < (if (1 - m4 (1 + n) n n) + n < (0 - n) + (1 + n) then (0 - n) + (1 + n) else (1 - m4 (1 + n) n n) + n) - ((0 - n) + n) := by
  have := m4_le (1 + n) n n
  split <;> omega
theorem own_l (x y u v : Int) (hx : x = u) (hy : y = v) (fa fb : SE) (env : LW.Env) (s : Sto) (ha : fa env s = some (late x y, s)) (hb : fb env s = some (late u v, s)) : eOwn "Rule" CS true m_Rule___eq__ fa fb env s = some (.bl false, s) := by
  unfold eOwn
  rw [ha]
  dsimp only
  rw [if_pos rfl, hb]
  dsimp only
  rw [if_pos (show okTy s CS (late u v) = true by kernel_rfl), eqr_l x y u v hx hy s]
  rfl
theorem own_s (x : Int) (fa fb : SE) (env : LW.Env) (s : Sto) (ha : fa env s = some (soon x, s)) (hb : fb env s = some (soon x, s)) : eOwn "Rule" CS true m_Rule___eq__ fa fb env s = some (.bl false, s) := by
  unfold eOwn
  rw [ha]
  dsimp only
  rw [if_pos rfl, hb]
  dsimp only
  rw [if_pos (show okTy s CS (soon x) = true by kernel_rfl), eqr_s x s]
  rfl
theorem srtd_1 (x : Int) (s : Sto) : gSortD [dA x] s = some [.str "a"] := by kernel_rfl
theorem srtd_2 (h k : Int) (s : Sto) : gSortD [hrs h k] s = some [.str "a", .str "b"] := by kernel_rfl
theorem right (n : Int) (s : Sto) : m__law_right [.int n] s = some (.bl true, s) := by
  have h1 : ¬ 1 + n < n := by omega
  have g := gap n
  have g0 : (if (1 - m4 (1 + n) n n) + n < (0 - n) + (1 + n) then (0 - n) + (1 + n) else (1 - m4 (1 + n) n n) + n) - ((0 - n) + n) ≠ 0 := by omega
  have a1 := nb_sl n (1 + n) n s h1
  have a2 := cp_ls (1 + n) n n (0 - n) (1 - m4 (1 + n) n n) s g0
  have a3 := rs_sl (1 + n) n n s h1
  have a4 := isr_sl (1 + n) n n s h1
  have a5 := isr_ls (1 + n) n n (0 - n) (1 - m4 (1 + n) n n) s g
  have a6 := fun fa fb env => own_l (1 + n) n (1 + n) n rfl rfl fa fb env s
  have a7 := fun fa fb env => own_l (0 - (0 - (1 + n))) (0 - (0 - n)) (1 + n) n (by omega) (by omega) fa fb env s
  have a8 := fun fa fb env => own_s n fa fb env s
  have b1 : oNe (.str "behind") (.str "behind") s = some (.bl false) := by kernel_rfl
  have b2 : oEq (.lst [.str "a"]) (.lst [.str "a"]) s = some (.bl true) := by kernel_rfl
  have b3 : oEq (.lst [.str "a", .str "b"]) (.lst [.str "a", .str "b"]) s = some (.bl true) := by kernel_rfl
  have c1 := cols_l (1 + n) n s
  have c2 := eqn_seen n s
  have c3 := ofc (1 + n) n s
  have c4 := pa_ls (1 + n) n n s
  have c5 := rs_ls (1 + n) n n s
  have c6 := sl_1 n s
  have c7 := eqn_slack n s
  have c8 := an_s n s
  have c9 := srtd_1 (0 - n) s
  have d1 := an_l (1 + n) n s
  have d2 := srtd_2 (0 - (1 + n)) (0 - n) s
  generalize D.lst [.lst [tA (0 - (0 - (1 + n)))], .lst [tB (0 - (0 - n))]] = CO at c1 c2
  generalize late (0 - (0 - (1 + n))) (0 - (0 - n)) = LC at c3 a7
  generalize hrs (0 - n) (1 - m4 (1 + n) n n) = PA at c4 c5 a2 a5
  generalize D.lst [.tup [.tup [], .int (n - n), .int (n - n)]] = SL at c6 c7
  generalize dA (0 - n) = AL at c8 c9
  generalize hrs (0 - (1 + n)) (0 - n) = AK at d1 d2
  simp [g_lst, g_eqN, g_addI, g_addL, g_cat, nab, nba, g_subI, g_ixL, g_ixT, g_lt, g_le, g_gt, g_ge, fnM, env0, sSeq, sSet, sOwn, lDisp, aNil, eCall, eCallP, aCons, eVar, sFor, iSeq, loopM, noChk, asgN, asgT, setAll, sIf, bOf, bAnd, bOr, bNot, bYes, eOp, eL, lComp, compM, wipeE, oEqDD, ePeek, eqDD, flatD, eqGD, hitD, getG, eqFD, sApp, sFrz, frz, sRet, iKy, iKyT, oDx, oDxT, oInK, oInKT, dicG, keyD, keysD, keyT, keyV, getD, getDT, memT, eC, eBi, gLen, eIf, eTup, oIsN, oNotN, isNonD, dComp, dcM, putKD, putV, dCompT, dcMT, putKDT, putVT, eD, eDT, iEnm, enumD, eOr, eAnd, eNot, oEqLD, eqLD, oInLD, sDrop, sPar, Kd.run, eFld, fldD, eGetOT, eInOT, sPutT, sOwnT, sFrzT, frzT, sUnp, atI, ixN, eNeg, eVals, eMake, mapO, sNil, lT0, sPut, rgU1, rgU2, rg1, rg2, m__law_right, b__law_right, mk_l, mk_o, rows_l, matters_l, a1, a2, a3, a4, a5, a6, a7, a8, b1, b2, b3, c1, c2, c3, c4, c5, c6, c7, c8, c9, d1, d2, ofr, nb_ls, al_ls, al_ll, pa_ll, lean_1, te_l, eqn_why, eqn_line, lDd, evP, mergeD]

theorem cutD_map {ns : List Int} {lo hi : Option Int} : cutD (ns.map D.int) lo hi = (cutD ns lo hi).map D.int := by
  unfold cutD
  rw [List.length_map, List.map_take, List.map_drop]
theorem gSum_cut {ns : List Int} {lo hi : Option Int} {st : Sto} : gSum [.lst (cutD (ns.map D.int) lo hi)] st = some (.int (cutD ns lo hi).sum) := by
  have e : lstI st (.lst (cutD (ns.map D.int) lo hi)) = some (cutD ns lo hi) := by
    rw [cutD_map]
    exact intsOf_map _
  unfold gSum
  dsimp only
  rw [e]
theorem law_true (ns : List Int) (hl : ns.length ≤ 63) : ∃ st', m_law [.fro (ns.map D.int)] [] = some (.bl true, st') := by
  have H : Ok (m_law [.fro (ns.map D.int)] []) fun d _ => d = .bl true := by
    refine z_fn rfl ?_
    unfold b_law
    bv_omega
    refine u_now rfl ?_
    bv_omega
    refine u_now gSum_cut ?_
    bv_omega
    refine u_pow (by decide +kernel) ?_
    refine u_mod (by decide +kernel) ?_
    bv_omega
    exact Ok.use (right _ _) rfl
  obtain ⟨d, st', e, rfl⟩ := H
  exact ⟨st', e⟩
end K14

theorem PySem.Challenge.cw_leafwaits_k14_rows_by_name_holds : PySem.Challenge.rw_leafwaits_k14_rows_by_name.Holds := by
  exact K14.hmain K14.law_true
