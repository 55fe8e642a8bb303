import PyProof.Rows.All
import Wide.All
import OpenK.AllK
import Wide.FinOn
import HandS.ForMost
import HandS.Exc
import HandS.Wide
import HandS.WideBits
import HandS.TupAny
import HandS.TupLe
import HandS.IsInst
import HandS.RaiseMore
import HandS.Property
import HandS.MakeKw
import HandS.Defaults
import HandS.SetFor
import HandS.Strs
import HandS.SortInts
import HandS.Style
import HandS.More
import HandS.Deep
import HandS.Text
import HandS.DeepEq
import HandS.DictEq
import HandS.DictComp
import HandS.ForExc
import HandS.TryMany
import HandS.ExcInit
import KE.KExcSuper
import KE.KSuper
import HandS.ExcField
import HandS.TupSets
import PyProof.StrLawsRepr
import KE.DataCmp
import HandS.Finally
import HandS.ListItems
import HandS.ExcOwn
import HandS.OwnEq
import HandS.SortOrd
import HandS.DictTup
import HandS.Head0
import HandS.Head1
import HandS.Head2
import HandS.HeadHook1
import HandS.HeadHook2
import HandS.HeadNt
import HandS.Conv
import KE.KDictDisplayH
import PyProof.ReprRoads
import HandS.StrMore
import HandS.Codes
import HandS.ExcValue
import HandS.ExcIs
import OpenK.KMore
import KE.KEqDict
import PyProof.DictFindH
import KE.SortData
import KE.KDictCopyH
import KE.KDictKeyed
import HandS.Star
import KE.KDictZip
import PySem.Challenge.RW_leafwaits_k64_whole_fits_and_clashes
import KE.RegKIsAll
import KE.KStateDown
namespace PySem
namespace LeafX
open PySem.W PySem.Calls PyProof.Rows PySem.HandSPX
structure Ps where
  (p1 p2 p3 a1 a2 a3 a4 b1 b2 b3 b4 : Pos)
def iA (p : Ps) : Arguments := { posonlyargs := [], args := [{ arg := "self", annotation := none, pos := p.p1 }, { arg := "value", annotation := none, pos := p.p2 }], vararg := none, kwonlyargs := [], kw_defaults := [], kwarg := none, defaults := [.Constant .none 0 p.p3] }
def iB (p : Ps) : List Stmt := [.Expr (.Call (.Attribute (.Call (.Name "super" p.a1) [] [] p.a2) "__init__" p.a3) [] [] p.a4) p.a4, .Assign [.Attribute (.Name "self" p.b1) "value" p.b2] (.Name "value" p.b3) p.b4]
def iS : Scope := { kind := .function, names := [(PySem.Str.ofString "self", .local), (PySem.Str.ofString "value", .local), (PySem.Str.ofString "__class__", .free), (PySem.Str.ofString "super", .globalImplicit)], isGenerator := false, isCoroutine := false, more := [] }
end LeafX
end PySem
namespace LW
open PySem L2 PyProof.Rows
section
variable {K : PySem.W.Frag} {h : Heap} {mg : Str → Option Value} {x cn m qual : Str} {st : Stmt}
/-- a Bool that tells an equation -/
def eqB {α : Type} [DecidableEq α] (a b : α) : Bool := decide (a = b)
theorem eqB_ok {α : Type} [DecidableEq α] {a b : α} (h : eqB a b = true) : a = b := of_decide_eq_true h
theorem bsplit {a b : Bool} (h : (a && b) = true) : a = true ∧ b = true := Bool.and_eq_true_iff.mp h
/-- what isi1_mk asks -/
def isB (K : PySem.W.Frag) (cn : Str) : Bool := PySem.W.plainGet K (He.ga K cn) Str.empty && (PySem.W.hasDictIn K (He.ga K cn) && (PySem.W.plainOver K (He.ga K cn) && (He.eqO (PySem.W.findIn K (.ref (He.ga K cn)) "__setattr__") (some (some (.builtin "object.__setattr__"))) &&
  (He.eqO (PySem.W.findIn K (.ref (He.ga K cn)) "__class__") (some (some (.builtin "object.__class__"))) && (He.eqO (PySem.W.specialIn K (.builtin "object.__class__") "__get__") (some (some (.builtin "getset_descriptor.__get__"))) && (eqB (PySem.W.takesIn K (.builtin "object.__class__")) (some true) && (eqB (PySem.W.mroIn K (He.ga K cn) (.type "object")) (some true) &&
  (eqB (PySem.W.kitOne K (.ref (He.ga K cn)) (.ref (He.ga K cn))) (some true) && ((["int", "str", "list", "tuple", "dict", "bool", "NoneType"] : List String).all (fun t => eqB (PySem.W.kitOne K (.type t) (.ref (He.ga K cn))) (some false)) && (["int", "str", "list", "tuple", "dict", "bool"] : List String).all fun t => eqB (PySem.W.kitOne K (.ref (He.ga K cn)) (.type t)) (some false))))))))))
def nfB (K : PySem.W.Frag) (cn : Str) (cs : List Str) : Bool := cs.all (fun c => PySem.W.notFirst K (He.ga K cn) (.ref (He.ga K c))) && (["int", "str", "list", "tuple", "dict", "bool", "NoneType"] : List String).all fun t => PySem.W.notFirst K (He.ga K cn) (.type t)
end
end LW
namespace LW
open PySem PySem.W L2 PyProof.Rows
open PySem.LeafX PySem.HandSPX
/-- where __init__ of the class stands -/
def liA (K : Frag) (cn : Str) : Addr := He.ma K (He.ga K cn) "__init__"
abbrev LfV : Type := Option (Str × Str × Arguments × FuncBody × Scope × Addr × List Str × Addr)
def lfW (K : Frag) (cn : Str) : LfV := match K.lookup (liA K cn) with
  | some ⟨_, _, .func fd, _⟩ => some (fd.name, fd.qualname, fd.params, fd.body, fd.scope, fd.globals, fd.closure.map (·.1), fd.builtins)
  | _ => none
abbrev LfD : Type := Str × Str × Ps
def lfV (d : LfD) : LfV := some ("__init__", d.2.1, iA d.2.2, .stmts (iB d.2.2), iS, mainGlobals, ["__class__"], builtinsNs)
inductive Vt where
  | nil
  | node (b : Bool) (l r : Vt)
def Vt.has : Nat → Vt → Nat → Bool
  | 0, _, _ => false
  | _ + 1, .nil, _ => false
  | f + 1, .node b l r, n => match Nat.ble n 1 with
    | true => b
    | false => match Nat.beq (n % 2) 0 with
      | true => Vt.has f l (n / 2)
      | false => Vt.has f r (n / 2)
def Vt.put : Nat → Vt → Nat → Vt
  | 0, v, _ => v
  | f + 1, .nil, n => match Nat.ble n 1 with
    | true => .node true .nil .nil
    | false => match Nat.beq (n % 2) 0 with
      | true => .node false (Vt.put f .nil (n / 2)) .nil
      | false => .node false .nil (Vt.put f .nil (n / 2))
  | f + 1, .node b l r, n => match Nat.ble n 1 with
    | true => .node true l r
    | false => match Nat.beq (n % 2) 0 with
      | true => .node b (Vt.put f l (n / 2)) r
      | false => .node b l (Vt.put f r (n / 2))
def ddp : List Nat → Vt → List Nat
  | [], _ => []
  | a :: r, v => match Vt.has 40 v (a + 1) with
    | true => ddp r v
    | false => a :: ddp r (Vt.put 40 v (a + 1))
def asV (g : Addr → Option Obj) : Nat → List Addr
  | 0 => [mainGlobals, cStatics]
  | n + 1 => ddp (asV g n ++ (asV g n).flatMap fun a => match g a with
    | some o => He.refsD o
    | none => []) .nil
abbrev AlC : Type := He.AlD × Bool × List LfV
def obsC (n : Nat) (fa : List He.Fa) (fn : List He.DefD) (ln : List LfD) (ex : Frag → Bool) (g : Addr → Option Obj) : AlC := (He.obsD fa fn (He.frG g (asV g n)), ex (He.frG g (asV g n)), ln.map fun d => lfW (He.frG g (asV g n)) d.1)
/-- what the end leans on -/
structure SaysC (fa : List He.Fa) (fn : List He.DefD) (ln : List LfD) (ex : Frag → Bool) (K : Frag) : Prop where
  d : He.SaysD fa fn K
  ex : ex K = true
  l : (ln.map fun d => lfW K d.1) = ln.map lfV
def hookC (n : Nat) (fa : List He.Fa) (fn : List He.DefD) (ln : List LfD) (ex : Frag → Bool) : Hook where
  α := AlC
  obs := fun s => obsC n fa fn ln ex s.heap.get?
  val := fun _ => (He.valD fn, true, ln.map lfV)
  says := fun _ h => ∃ K : Frag, K.In h ∧ SaysC fa fn ln ex K
  of := fun _ _ e => ⟨_, He.frG_in, congrArg (fun z : AlC => z.1) e, congrArg (fun z : AlC => z.2.1) e, congrArg (fun z : AlC => z.2.2) e⟩
  keeps := fun _ _ _ ⟨K, hK, c⟩ k => ⟨K, Frag.In.keeps hK k, c⟩
theorem obsC_eq {n : Nat} {fa : List He.Fa} {fn : List He.DefD} {ln : List LfD} {ex : Frag → Bool} {g : Addr → Option Obj} {s : Shared} (h : ∀ a, g a = s.heap.get? a) : obsC n fa fn ln ex g = (hookC n fa fn ln ex).obs s := by
  have e : g = s.heap.get? := funext h
  rw [e] <;> rfl
def andL : List Bool → Bool
  | [] => true
  | b :: r => b && andL r
end LW
namespace K64
open PySem L2 LW PyProof.Rows
def topS (i : Nat) : Stmt := PySem.Challenge.pw_leafwaits_k64_whole_fits_and_clashes.main.body.getD i (.Pass ⟨0, 0, 0, 0⟩)
abbrev CS : List Str := ["Sights"]
abbrev s__law_purse : Stmt := topS 22
abbrev s__law_purses : Stmt := topS 25
abbrev s__law_mixed : Stmt := topS 23
abbrev s__law_draw : Stmt := topS 24
abbrev s__law_word : Stmt := topS 28
abbrev s__law_shuffled : Stmt := topS 27
abbrev s__law_names : Stmt := topS 29
abbrev s__law_one_of : Stmt := topS 26
abbrev s__law_hidden : Stmt := topS 33
abbrev s__law_spot : Stmt := topS 32
abbrev s__law_row_hour : Stmt := topS 31
abbrev s__law_first_told : Stmt := topS 34
abbrev s__law_sight : Stmt := topS 35
abbrev s__law_seen : Stmt := topS 36
abbrev s__law_copied : Stmt := topS 37
abbrev s_is_name : Stmt := topS 8
abbrev s_is_lot : Stmt := topS 13
abbrev s_is_whole : Stmt := topS 9
abbrev s_is_count : Stmt := topS 10
abbrev s_is_sight : Stmt := topS 14
abbrev s_Sights___init__ : Stmt := inClass (topS 16) 0
abbrev s__law_within : Stmt := topS 30
abbrev s__law_every : Stmt := topS 41
abbrev s__law_suits : Stmt := topS 42
abbrev s__law_bounds : Stmt := topS 38
abbrev s__law_standing : Stmt := topS 39
abbrev s__law_pairs : Stmt := topS 40
abbrev s_Sights_with_row : Stmt := inClass (topS 16) 6
abbrev s_check_sights : Stmt := topS 17
abbrev s_Sights_greatest_wait : Stmt := inClass (topS 16) 9
abbrev s_Sights_least_wait : Stmt := inClass (topS 16) 8
abbrev s_Sights_standing : Stmt := inClass (topS 16) 10
abbrev s_Sights_clashes : Stmt := inClass (topS 16) 11
abbrev s_fits : Stmt := topS 18
abbrev s_Sights_most : Stmt := inClass (topS 16) 2
abbrev s_Sights_rows : Stmt := inClass (topS 16) 3
abbrev s_Sights___eq__ : Stmt := inClass (topS 16) 5
abbrev s_clash : Stmt := topS 19
abbrev s_check_count : Stmt := topS 11
abbrev s_Sights_without : Stmt := inClass (topS 16) 7
abbrev s_Sights_names : Stmt := inClass (topS 16) 1
abbrev s__law_grown_right : Stmt := topS 43
abbrev s_check_clash : Stmt := topS 20
abbrev s__law_judged_right : Stmt := topS 44
abbrev s_law : Stmt := topS 45
def dfd (a : PySem.Str × Option PySem.Str) (n qn : PySem.Str) (st : Stmt) (dv : List He.Dv) : He.DefD := ⟨a, n, qn, defArgs st, defBody st, defScope st, dv, []⟩
def hnames0 : List PySem.Str := [("_wall" : PySem.Str), ("__name__" : PySem.Str), ("LeafError" : PySem.Str), ("InvalidCount" : PySem.Str), ("InvalidNames" : PySem.Str), ("InvalidSights" : PySem.Str), ("LETTERS" : PySem.Str), ("is_name" : PySem.Str), ("is_whole" : PySem.Str), ("is_count" : PySem.Str)]
def hnames1 : List PySem.Str := [("check_count" : PySem.Str), ("is_lot" : PySem.Str), ("is_sight" : PySem.Str), ("Sights" : PySem.Str), ("check_sights" : PySem.Str), ("fits" : PySem.Str), ("clash" : PySem.Str), ("check_clash" : PySem.Str), ("_law_purse" : PySem.Str), ("_law_mixed" : PySem.Str)]
def hnames2 : List PySem.Str := [("_law_draw" : PySem.Str), ("_law_purses" : PySem.Str), ("_law_one_of" : PySem.Str), ("_law_shuffled" : PySem.Str), ("_law_word" : PySem.Str), ("_law_names" : PySem.Str), ("_law_within" : PySem.Str), ("_law_row_hour" : PySem.Str), ("_law_spot" : PySem.Str), ("_law_hidden" : PySem.Str)]
def hnames3 : List PySem.Str := [("_law_first_told" : PySem.Str), ("_law_sight" : PySem.Str), ("_law_seen" : PySem.Str), ("_law_copied" : PySem.Str), ("_law_bounds" : PySem.Str), ("_law_standing" : PySem.Str), ("_law_pairs" : PySem.Str), ("_law_every" : PySem.Str), ("_law_suits" : PySem.Str), ("_law_grown_right" : PySem.Str)]
def hnames4 : List PySem.Str := [("_law_judged_right" : PySem.Str)]
def hnames : List PySem.Str := hnames0 ++ (hnames1 ++ (hnames2 ++ (hnames3 ++ (hnames4))))
def D0 : He.DefD := dfd ("Sights", some "__eq__") "__eq__" "Sights.__eq__" (s_Sights___eq__) []
def D1 : He.DefD := dfd ("Sights", some "__init__") "__init__" "Sights.__init__" (s_Sights___init__) []
def D2 : He.DefD := dfd ("Sights", some "clashes") "clashes" "Sights.clashes" (s_Sights_clashes) []
def D3 : He.DefD := dfd ("Sights", some "greatest_wait") "greatest_wait" "Sights.greatest_wait" (s_Sights_greatest_wait) []
def D4 : He.DefD := dfd ("Sights", some "least_wait") "least_wait" "Sights.least_wait" (s_Sights_least_wait) []
def D5 : He.DefD := dfd ("Sights", some "most") "most" "Sights.most" (s_Sights_most) []
def D6 : He.DefD := dfd ("Sights", some "names") "names" "Sights.names" (s_Sights_names) []
def D7 : He.DefD := dfd ("Sights", some "rows") "rows" "Sights.rows" (s_Sights_rows) []
def D8 : He.DefD := dfd ("Sights", some "standing") "standing" "Sights.standing" (s_Sights_standing) []
def D9 : He.DefD := dfd ("Sights", some "with_row") "with_row" "Sights.with_row" (s_Sights_with_row) []
def D10 : He.DefD := dfd ("Sights", some "without") "without" "Sights.without" (s_Sights_without) []
def D11 : He.DefD := dfd ("_law_bounds", none) "_law_bounds" "_law_bounds" (s__law_bounds) []
def D12 : He.DefD := dfd ("_law_copied", none) "_law_copied" "_law_copied" (s__law_copied) []
def D13 : He.DefD := dfd ("_law_draw", none) "_law_draw" "_law_draw" (s__law_draw) []
def D14 : He.DefD := dfd ("_law_every", none) "_law_every" "_law_every" (s__law_every) []
def D15 : He.DefD := dfd ("_law_first_told", none) "_law_first_told" "_law_first_told" (s__law_first_told) []
def D16 : He.DefD := dfd ("_law_grown_right", none) "_law_grown_right" "_law_grown_right" (s__law_grown_right) []
def D17 : He.DefD := dfd ("_law_hidden", none) "_law_hidden" "_law_hidden" (s__law_hidden) []
def D18 : He.DefD := dfd ("_law_judged_right", none) "_law_judged_right" "_law_judged_right" (s__law_judged_right) []
def D19 : He.DefD := dfd ("_law_mixed", none) "_law_mixed" "_law_mixed" (s__law_mixed) []
def D20 : He.DefD := dfd ("_law_names", none) "_law_names" "_law_names" (s__law_names) []
def D21 : He.DefD := dfd ("_law_one_of", none) "_law_one_of" "_law_one_of" (s__law_one_of) []
def D22 : He.DefD := dfd ("_law_pairs", none) "_law_pairs" "_law_pairs" (s__law_pairs) []
def D23 : He.DefD := dfd ("_law_purse", none) "_law_purse" "_law_purse" (s__law_purse) []
def D24 : He.DefD := dfd ("_law_purses", none) "_law_purses" "_law_purses" (s__law_purses) []
def D25 : He.DefD := dfd ("_law_row_hour", none) "_law_row_hour" "_law_row_hour" (s__law_row_hour) []
def D26 : He.DefD := dfd ("_law_seen", none) "_law_seen" "_law_seen" (s__law_seen) []
def D27 : He.DefD := dfd ("_law_shuffled", none) "_law_shuffled" "_law_shuffled" (s__law_shuffled) []
def D28 : He.DefD := dfd ("_law_sight", none) "_law_sight" "_law_sight" (s__law_sight) []
def D29 : He.DefD := dfd ("_law_spot", none) "_law_spot" "_law_spot" (s__law_spot) []
def D30 : He.DefD := dfd ("_law_standing", none) "_law_standing" "_law_standing" (s__law_standing) []
def D31 : He.DefD := dfd ("_law_suits", none) "_law_suits" "_law_suits" (s__law_suits) []
def D32 : He.DefD := dfd ("_law_within", none) "_law_within" "_law_within" (s__law_within) []
def D33 : He.DefD := dfd ("_law_word", none) "_law_word" "_law_word" (s__law_word) []
def D34 : He.DefD := dfd ("check_clash", none) "check_clash" "check_clash" (s_check_clash) []
def D35 : He.DefD := dfd ("check_count", none) "check_count" "check_count" (s_check_count) [.int 0, .non]
def D36 : He.DefD := dfd ("check_sights", none) "check_sights" "check_sights" (s_check_sights) []
def D37 : He.DefD := dfd ("clash", none) "clash" "clash" (s_clash) []
def D38 : He.DefD := dfd ("fits", none) "fits" "fits" (s_fits) []
def D39 : He.DefD := dfd ("is_count", none) "is_count" "is_count" (s_is_count) []
def D40 : He.DefD := dfd ("is_lot", none) "is_lot" "is_lot" (s_is_lot) []
def D41 : He.DefD := dfd ("is_name", none) "is_name" "is_name" (s_is_name) []
def D42 : He.DefD := dfd ("is_sight", none) "is_sight" "is_sight" (s_is_sight) []
def D43 : He.DefD := dfd ("is_whole", none) "is_whole" "is_whole" (s_is_whole) []
def D44 : He.DefD := dfd ("law", none) "law" "law" (s_law) []
def hfa0 : List He.Fa := [.meth "Sights" "__eq__", .mkr "Sights", .meth "Sights" "clashes", .meth "Sights" "greatest_wait", .meth "Sights" "least_wait", .meth "Sights" "most", .meth "Sights" "names", .meth "Sights" "rows", .meth "Sights" "standing", .meth "Sights" "with_row"]
def hfa1 : List He.Fa := [.meth "Sights" "without", .glo "_law_bounds", .glo "_law_copied", .glo "_law_draw", .glo "_law_every", .glo "_law_first_told", .glo "_law_grown_right", .glo "_law_hidden", .glo "_law_judged_right", .glo "_law_mixed"]
def hfa2 : List He.Fa := [.glo "_law_names", .glo "_law_one_of", .glo "_law_pairs", .glo "_law_purse", .glo "_law_purses", .glo "_law_row_hour", .glo "_law_seen", .glo "_law_shuffled", .glo "_law_sight", .glo "_law_spot"]
def hfa3 : List He.Fa := [.glo "_law_standing", .glo "_law_suits", .glo "_law_within", .glo "_law_word", .glo "check_clash", .glo "check_count", .glo "check_sights", .glo "clash", .glo "fits", .glo "is_count"]
def hfa4 : List He.Fa := [.glo "is_lot", .glo "is_name", .glo "is_sight", .glo "is_whole", .glo "law", .noat "Sights" "limit", .noat "Sights" "lot", .noat "Sights" "seen", .glo "Sights", .str "LETTERS" "abcdefghijklmnopqrstuvwxyz"]
def hfa5 : List He.Fa := [.cls "Sights", .free "bool", .free "dict", .free "int", .free "isinstance", .free "len", .free "list", .free "max", .free "min", .free "range"]
def hfa6 : List He.Fa := [.free "set", .free "sorted", .free "str", .free "sum", .free "tuple", .free "zip"]
def hfa : List He.Fa := hfa0 ++ (hfa1 ++ (hfa2 ++ (hfa3 ++ (hfa4 ++ (hfa5 ++ (hfa6))))))
def hfn0 : List He.DefD := [D0, D1, D2, D3, D4, D5, D6, D7, D8, D9]
def hfn1 : List He.DefD := [D10, D11, D12, D13, D14, D15, D16, D17, D18, D19]
def hfn2 : List He.DefD := [D20, D21, D22, D23, D24, D25, D26, D27, D28, D29]
def hfn3 : List He.DefD := [D30, D31, D32, D33, D34, D35, D36, D37, D38, D39]
def hfn4 : List He.DefD := [D40, D41, D42, D43, D44]
def hfn : List He.DefD := hfn0 ++ (hfn1 ++ (hfn2 ++ (hfn3 ++ (hfn4))))
def hln0 : List LfD := []
def hln : List LfD := hln0
def hex0 (K : PySem.W.Frag) : List Bool := [isB K "Sights", eqB (PySem.W.findIn K (.ref (He.ga K "Sights")) "__ne__") (some (some (.builtin "object.__ne__"))), nfB K "Sights" ["Sights"], eqB (PySem.W.mroIn K (He.ga K "Sights") (.type "object")) (some true)]
def hexl (K : PySem.W.Frag) : List Bool := hex0 K
def hex (K : PySem.W.Frag) : Bool := andL (hexl K)
abbrev HR : PySem.W.OpenRow := PySem.W.OpenLaw.row PySem.Challenge.rw_leafwaits_k64_whole_fits_and_clashes
abbrev hk : PySem.W.Hook := hookC 5 hfa hfn hln hex
def hob (s : PySem.W.SharedT) : AlC := obsC 5 hfa hfn hln hex (HandSHeadRun.getT s)
theorem hob_eq (s : PySem.W.SharedT) : hob s = hk.obs s.abs := obsC_eq (HandSHeadRun.getT_eq s)
set_option maxHeartbeats 0 in
theorem hrun (w : World) : HandSHeadRun.RunEq HR (PySem.W.view HR.prog [45]) hk hob 12000 hnames w := by
  intro os
  kernel_rfl
end K64
set_option Elab.async false
set_option linter.all false
set_option maxRecDepth 100000
set_option maxHeartbeats 4000000
/-! LwA: plain data for what stands in the heap; the relation of an environment of plain data with a frame; readings by plain functions. -/
namespace LW
open PySem L2

/-- plain data. fro: a list that nobody may write; cell k, dcl k, ocl k: the k-th thing that may still change: a list, a dict, an instance; obj: an instance that changes no more -/
inductive D where
  | non | bl (b : Bool) | int (i : Int) | str (x : Str) | ty (n : String)
  | tup (xs : List D) | lst (xs : List D) | fro (xs : List D) | cell (k : Nat)
  | obj (c : Str) (ns : List Str) (vs : List D) | cls (c : Str)
  | dic (ks : List Key) (vs : List D) | dit (ks : List (List Key)) (vs : List D)
  | dcl (k : Nat) | ocl (k : Nat) | hid (o : HO) | err (c : Str) (vs : List D) | rng (j : Int)
  deriving Inhabited

/-- what the module's names hold; the written part -/
structure Glob where
  mg : Str → Option Value
  K : PySem.W.Frag
/-- the protected addresses: they may still change -/
abbrev Prot := Addr → Prop
abbrev Sto := List (List D)

/-- an error of the class at C, its dict (none | at d), that is handed about -/
def ErO (C : Addr) (d : Option Addr) (a : Addr) : HO := .ext fun h => ∃ (oe : Obj) (vs : Array Value), h.get? a = some oe ∧ Zc (.ref C) d oe ∧ oe.data = .fields vs
/-- the range of 0 to j that stands at a -/
def RgO (j : Int) (a : Addr) : HO := .ext fun h => ∃ t u v, IsRange h a 0 j 1 t u v
theorem rgo_dK {j : Int} {a : Addr} {kvs : List (Key × V)} : RgO j a ≠ .dK kvs := fun z => by
  have z' : HO.ext _ = HO.dK kvs := z
  cases z'
theorem rgo_frz {j : Int} {a : Addr} {o : Obj} {u : HO} : RgO j a ≠ .frz o u := fun z => by
  have z' : HO.ext _ = HO.frz o u := z
  cases z'
theorem ero_dK {C : Addr} {d : Option Addr} {a : Addr} {kvs : List (Key × V)} : ErO C d a ≠ .dK kvs := fun z => by
  have z' : HO.ext _ = HO.dK kvs := z
  cases z'
theorem ero_frz {C : Addr} {d : Option Addr} {a : Addr} {o : Obj} {u : HO} : ErO C d a ≠ .frz o u := fun z => by
  have z' : HO.ext _ = HO.frz o u := z
  cases z'
mutual
inductive Rep (mg : Glob) (N : Prot) (c : List Addr) (H : Hp) : V → D → Prop where
  | non : Rep mg N c H .non .non
  | bl (b : Bool) : Rep mg N c H (.bl b) (.bl b)
  | int (i : Int) : Rep mg N c H (.int i) (.int i)
  | str (x : Str) : Rep mg N c H (.str x) (.str x)
  | ty (n : String) : Rep mg N c H (.ty n) (.ty n)
  | cls {cn : Str} {C : Addr} (h : mg.mg cn = some (.ref C)) : Rep mg N c H (.ref C) (.cls cn)
  | tup {a : Addr} {vs : List V} {ds : List D} (h : H a = some (.tup vs)) (r : RepL mg N c H vs ds) : Rep mg N c H (.ref a) (.tup ds)
  | lst {a : Addr} {vs : List V} {ds : List D} (h : H a = some (.lst vs)) (n : ¬ N a) (r : RepL mg N c H vs ds) : Rep mg N c H (.ref a) (.lst ds)
  | fro {a : Addr} {o : Obj} {vs : List V} {ds : List D} (h : H a = some (.frz o (.lst vs))) (n : ¬ N a) (r : RepL mg N c H vs ds) : Rep mg N c H (.ref a) (.fro ds)
  | kro {a : Addr} {ns : List Int} (h : ∀ H' : Hp, SqL mg.K H' a (ns.map V.int)) : Rep mg N c H (.ref a) (.fro (ns.map D.int))
  | cell {k : Nat} {a : Addr} (h : c[k]? = some a) : Rep mg N c H (.ref a) (.cell k)
  | dcl {k : Nat} {a : Addr} (h : c[k]? = some a) : Rep mg N c H (.ref a) (.dcl k)
  | ocl {k : Nat} {a : Addr} (h : c[k]? = some a) : Rep mg N c H (.ref a) (.ocl k)
  | obj {a C dx : Addr} {fs : List (Str × V)} {cn : Str} {ns : List Str} {ds : List D} (hc : mg.mg cn = some (.ref C)) (h : H a = some (.ins C dx fs)) (n : ¬ N a) (hn : fs.map (·.1) = ns) (r : RepL mg N c H (fs.map (·.2)) ds) : Rep mg N c H (.ref a) (.obj cn ns ds)
  | dic {a : Addr} {kvs : List (Key × V)} {ks : List Key} {ds : List D} (h : H a = some (.dK kvs)) (n : ¬ N a) (hn : kvs.map (·.1) = ks) (r : RepL mg N c H (kvs.map (·.2)) ds) : Rep mg N c H (.ref a) (.dic ks ds)
  | dfz {a : Addr} {o : Obj} {kvs : List (Key × V)} {ks : List Key} {ds : List D} (h : H a = some (.frz o (.dK kvs))) (n : ¬ N a) (hn : kvs.map (·.1) = ks) (r : RepL mg N c H (kvs.map (·.2)) ds) : Rep mg N c H (.ref a) (.dic ks ds)
  | dit {a : Addr} {kvs : List (List Key × V)} {ks : List (List Key)} {ds : List D} (h : H a = some (.dT kvs)) (n : ¬ N a) (hn : kvs.map (·.1) = ks) (r : RepL mg N c H (kvs.map (·.2)) ds) : Rep mg N c H (.ref a) (.dit ks ds)
  | ditz {a : Addr} {o : Obj} {kvs : List (List Key × V)} {ks : List (List Key)} {ds : List D} (h : H a = some (.frz o (.dT kvs))) (n : ¬ N a) (hn : kvs.map (·.1) = ks) (r : RepL mg N c H (kvs.map (·.2)) ds) : Rep mg N c H (.ref a) (.dit ks ds)
  | err0 {a C : Addr} {cn : Str} (hc : mg.mg cn = some (.ref C)) (h : H a = some (ErO C none a)) (n : ¬ N a) : Rep mg N c H (.ref a) (.err cn [])
  | err1 {a C dx : Addr} {cn : Str} {v : V} {d : D} (hc : mg.mg cn = some (.ref C)) (h : H a = some (ErO C (some dx) a)) (n : ¬ N a) (hd : H dx = some (.xd [(("value" : Str), v)])) (nd : ¬ N dx) (r : Rep mg N c H v d) : Rep mg N c H (.ref a) (.err cn [d])
  | rng {a : Addr} {j : Int} (h : H a = some (RgO j a)) (n : ¬ N a) : Rep mg N c H (.ref a) (.rng j)
inductive RepL (mg : Glob) (N : Prot) (c : List Addr) (H : Hp) : List V → List D → Prop where
  | nil : RepL mg N c H [] []
  | cons {v : V} {d : D} {vs : List V} {ds : List D} (h : Rep mg N c H v d) (t : RepL mg N c H vs ds) : RepL mg N c H (v :: vs) (d :: ds)
end

/-- a step of the heap as data sees it -/
structure Tr (N : Prot) (c : List Addr) (H : Hp) (N' : Prot) (c' : List Addr) (H' : Hp) : Prop where
  keep : ∀ a o, H a = some o → ¬ N a → H' a = some o
  new : ∀ a, N' a → N a ∨ H a = none
  pre : ∀ (k : Nat) a, c[k]? = some a → c'[k]? = some a
  tup : ∀ a vs, H a = some (.tup vs) → H' a = some (.tup vs)
section
variable {mg : Glob} {N N' : Prot} {c c' : List Addr} {H H' : Hp}
theorem Tr.own (t : Tr N c H N' c' H') {a : Addr} {u : HO} (h : H a = some u) (n : ¬ N a) : H' a = some u ∧ ¬ N' a :=
  ⟨t.keep _ _ h n, fun z => (t.new a z).elim n fun e => by rw [h] at e; cases e⟩
mutual
theorem Rep.tr {v : V} {d : D} (t : Tr N c H N' c' H') : Rep mg N c H v d → Rep mg N' c' H' v d
  | .non => .non
  | .bl b => .bl b
  | .int i => .int i
  | .str x => .str x
  | .ty n => .ty n
  | .cls h => .cls h
  | .tup h r => .tup (t.tup _ _ h) (RepL.tr t r)
  | .lst h n r => .lst (t.own h n).1 (t.own h n).2 (RepL.tr t r)
  | .fro h n r => .fro (t.own h n).1 (t.own h n).2 (RepL.tr t r)
  | .kro h => .kro h
  | .cell h => .cell (t.pre _ _ h)
  | .dcl h => .dcl (t.pre _ _ h)
  | .ocl h => .ocl (t.pre _ _ h)
  | .obj hc h n hn r => .obj hc (t.own h n).1 (t.own h n).2 hn (RepL.tr t r)
  | .dic h n hn r => .dic (t.own h n).1 (t.own h n).2 hn (RepL.tr t r)
  | .dfz h n hn r => .dfz (t.own h n).1 (t.own h n).2 hn (RepL.tr t r)
  | .dit h n hn r => .dit (t.own h n).1 (t.own h n).2 hn (RepL.tr t r)
  | .ditz h n hn r => .ditz (t.own h n).1 (t.own h n).2 hn (RepL.tr t r)
  | .err0 hc h n => .err0 hc (t.own h n).1 (t.own h n).2
  | .err1 hc h n hd nd r => .err1 hc (t.own h n).1 (t.own h n).2 (t.own hd nd).1 (t.own hd nd).2 (Rep.tr t r)
  | .rng h n => .rng (t.own h n).1 (t.own h n).2
theorem RepL.tr {vs : List V} {ds : List D} (t : Tr N c H N' c' H') : RepL mg N c H vs ds → RepL mg N' c' H' vs ds
  | .nil => .nil
  | .cons h r => .cons (Rep.tr t h) (RepL.tr t r)
end
theorem RepL.length {vs : List V} {ds : List D} : RepL mg N c H vs ds → vs.length = ds.length
  | .nil => rfl
  | .cons _ r => by rw [List.length_cons, List.length_cons, RepL.length r]
theorem RepL.get {vs : List V} {ds : List D} : ∀ {i : Nat} {d : D}, RepL mg N c H vs ds → ds[i]? = some d → ∃ v, vs[i]? = some v ∧ Rep mg N c H v d
  | _, _, .nil, e => by simp at e
  | 0, _, .cons h _, e => by simp at e; subst e; exact ⟨_, rfl, h⟩
  | i + 1, d, .cons _ r, e => by
    obtain ⟨v, h1, h2⟩ := RepL.get (i := i) (d := d) r (by simpa using e)
    exact ⟨v, by simpa using h1, h2⟩
theorem RepL.getV {vs : List V} {ds : List D} : ∀ {i : Nat} {v : V}, RepL mg N c H vs ds → vs[i]? = some v → ∃ d, ds[i]? = some d ∧ Rep mg N c H v d
  | _, _, .nil, e => by simp at e
  | 0, _, .cons h _, e => by simp at e; subst e; exact ⟨_, rfl, h⟩
  | i + 1, v, .cons _ r, e => by
    obtain ⟨d, h1, h2⟩ := RepL.getV (i := i) (v := v) r (by simpa using e)
    exact ⟨d, by simpa using h1, h2⟩
theorem RepL.append {vs us : List V} {ds es : List D} : RepL mg N c H vs ds → RepL mg N c H us es → RepL mg N c H (vs ++ us) (ds ++ es)
  | .nil, s => s
  | .cons h r, s => .cons h (RepL.append r s)
theorem RepL.take {vs : List V} {ds : List D} : ∀ (n : Nat), RepL mg N c H vs ds → RepL mg N c H (vs.take n) (ds.take n)
  | 0, _ => .nil
  | _ + 1, .nil => .nil
  | n + 1, .cons h r => .cons h (RepL.take n r)
theorem RepL.drop {vs : List V} {ds : List D} : ∀ (n : Nat), RepL mg N c H vs ds → RepL mg N c H (vs.drop n) (ds.drop n)
  | 0, r => r
  | _ + 1, .nil => .nil
  | n + 1, .cons _ r => RepL.drop n r
theorem RepL.set {v : V} {d : D} (h : Rep mg N c H v d) {vs : List V} {ds : List D} : ∀ (n : Nat), RepL mg N c H vs ds → RepL mg N c H (vs.set n v) (ds.set n d)
  | _, .nil => .nil
  | 0, .cons _ r => .cons h r
  | n + 1, .cons q r => .cons q (RepL.set h n r)
theorem RepL.reverse {vs : List V} {ds : List D} : RepL mg N c H vs ds → RepL mg N c H vs.reverse ds.reverse
  | .nil => .nil
  | .cons h r => by
    rw [List.reverse_cons, List.reverse_cons]
    exact (RepL.reverse r).append (.cons h .nil)
theorem RepL.ints : ∀ (ns : List Int), RepL mg N c H (ns.map V.int) (ns.map D.int)
  | [] => .nil
  | n :: r => .cons (.int n) (RepL.ints r)
theorem RepL.of_ints : ∀ {ns : List Int} {vs : List V}, RepL mg N c H vs (ns.map D.int) → vs = ns.map V.int
  | [], _, .nil => rfl
  | n :: r, _, .cons (.int _) t => by rw [RepL.of_ints t]; rfl
end

/-- what stands at the head of a cell that is no list: nothing is told by it -/
def tagD : D := .dit [[]] []
def isTag : List D → Bool
  | .dit [_] [] :: _ => true
  | _ => false
theorem RepL.noTag {mg : Glob} {N : Prot} {c : List Addr} {H : Hp} {vs : List V} {xs : List D} (r : RepL mg N c H vs xs) : isTag xs = false := by
  cases r with
  | nil => rfl
  | cons h t =>
    have go : ∀ (kvs : List (List Key × V)) (ks : List (List Key)) (ds ds0 : List D), kvs.map (·.1) = ks → RepL mg N c H (kvs.map (·.2)) ds → isTag (.dit ks ds :: ds0) = false := fun kvs ks ds ds0 hn r2 => by
      have l1 := congrArg List.length hn
      have l2 := r2.length
      rw [List.length_map] at l1 l2
      clear hn r2
      cases ds with
      | nil =>
        cases ks with
        | nil => rfl
        | cons _ _ => exact absurd (l1.symm.trans l2) (by simp)
      | cons _ _ =>
        cases ks with
        | nil => rfl
        | cons _ ks => cases ks <;> rfl
    cases h with
    | dit hh nn hn r2 => exact go _ _ _ _ hn r2
    | ditz hh nn hn r2 => exact go _ _ _ _ hn r2
    | _ => rfl
/-- what a cell holds -/
inductive CRep (mg : Glob) (N : Prot) (c : List Addr) (H : Hp) : HO → List D → Prop where
  | l {vs : List V} {xs : List D} (r : RepL mg N c H vs xs) : CRep mg N c H (.lst vs) xs
  | k {kvs : List (Key × V)} {ds : List D} (r : RepL mg N c H (kvs.map (·.2)) ds) : CRep mg N c H (.dK kvs) [tagD, .dic (kvs.map (·.1)) ds]
  | kz {od : Obj} {kvs : List (Key × V)} {ds : List D} (r : RepL mg N c H (kvs.map (·.2)) ds) : CRep mg N c H (.frz od (.dK kvs)) [tagD, .dic (kvs.map (·.1)) ds, .hid (.frz od (.dK kvs))]
  | t {kvs : List (List Key × V)} {ds : List D} (r : RepL mg N c H (kvs.map (·.2)) ds) : CRep mg N c H (.dT kvs) [tagD, .dit (kvs.map (·.1)) ds]
  | i {C dx : Addr} {cn : Str} {fs : List (Str × V)} {ds : List D} (hc : mg.mg cn = some (.ref C)) (r : RepL mg N c H (fs.map (·.2)) ds) : CRep mg N c H (.ins C dx fs) [tagD, .obj cn (fs.map (·.1)) ds]
theorem CRep.tr {mg : Glob} {N N' : Prot} {c c' : List Addr} {H H' : Hp} {o : HO} {xs : List D} (t : Tr N c H N' c' H') : CRep mg N c H o xs → CRep mg N' c' H' o xs
  | .l r => .l (r.tr t)
  | .k r => .k (r.tr t)
  | .kz r => .kz (r.tr t)
  | .t r => .t (r.tr t)
  | .i hc r => .i hc (r.tr t)
theorem CRep.lst {mg : Glob} {N : Prot} {c : List Addr} {H : Hp} {o : HO} {xs : List D} (h : CRep mg N c H o xs) (nt : isTag xs = false) : ∃ vs, o = .lst vs ∧ RepL mg N c H vs xs := by
  cases h with
  | l r => exact ⟨_, rfl, r⟩
  | k r => cases nt
  | kz r => cases nt
  | t r => cases nt
  | i hc r => cases nt
/-- a step of an expression: all that is no cell stays -/
structure Ex (N : Prot) (c : List Addr) (H : Hp) (N' : Prot) (c' : List Addr) (H' : Hp) : Prop where
  keep : ∀ a o, H a = some o → a ∉ c → H' a = some o
  new : ∀ a, N' a → N a ∨ H a = none
  mono : ∀ a, N a → N' a
  pre : ∀ (k : Nat) a, c[k]? = some a → c'[k]? = some a
  newc : ∀ a, a ∈ c' → a ∈ c ∨ H a = none
/-- the cells and the protected addresses stand well -/
structure Wd (mg : Glob) (N : Prot) (c : List Addr) (H : Hp) (st : Sto) : Prop where
  len : c.length = st.length
  sto : ∀ (k : Nat) a xs, c[k]? = some a → st[k]? = some xs → ∃ o, H a = some o ∧ CRep mg N c H o xs
  cn : ∀ a, a ∈ c → N a
  nd : c.Nodup
  trk : ∀ a, N a → H a ≠ none
/-- the list in a cell; the dict in a cell; the instance in a cell -/
def lcG (st : Sto) (k : Nat) : Option (List D) := match st[k]? with
  | some xs => match isTag xs with
    | true => none
    | false => some xs
  | none => none
theorem lcG_of {st : Sto} {k : Nat} {xs : List D} (e : st[k]? = some xs) (nt : isTag xs = false) : lcG st k = some xs := by
  unfold lcG
  rw [e]
  dsimp only
  rw [nt]
theorem lcG_some {st : Sto} {k : Nat} {xs : List D} (e : lcG st k = some xs) : st[k]? = some xs ∧ isTag xs = false := by
  unfold lcG at e
  split at e
  · rename_i ys h
    split at e
    · cases e
    · rename_i nt
      cases e
      exact ⟨h, nt⟩
  · cases e
theorem Wd.lstC {mg : Glob} {N : Prot} {c : List Addr} {H : Hp} {st : Sto} (W : Wd mg N c H st) {k : Nat} {a : Addr} {xs : List D} (hc : c[k]? = some a) (e : lcG st k = some xs) : ∃ vs, H a = some (.lst vs) ∧ RepL mg N c H vs xs := by
  obtain ⟨h1, h2⟩ := lcG_some e
  obtain ⟨o, ha, r⟩ := W.sto k a xs hc h1
  obtain ⟨vs, rfl, r2⟩ := r.lst h2
  exact ⟨vs, ha, r2⟩
/-- the dict in a cell, to be read; to be written -/
def dcG (st : Sto) (k : Nat) : Option (List Key × List D) := match st[k]? with
  | some [.dit [_] [], .dic ks ds] => some (ks, ds)
  | some [.dit [_] [], .dic ks ds, .hid _] => some (ks, ds)
  | _ => none
def dcU (st : Sto) (k : Nat) : Option (List Key × List D) := match st[k]? with
  | some [.dit [_] [], .dic ks ds] => some (ks, ds)
  | _ => none
abbrev unC (p : List Key × List D) : List D := [tagD, .dic p.1 p.2]
theorem Wd.dcU {mg : Glob} {N : Prot} {c : List Addr} {H : Hp} {st : Sto} (W : Wd mg N c H st) {k : Nat} {a : Addr} {p : List Key × List D} (hc : c[k]? = some a) (e : dcU st k = some p) : ∃ kvs, H a = some (.dK kvs) ∧ kvs.map (·.1) = p.1 ∧ RepL mg N c H (kvs.map (·.2)) p.2 := by
  unfold LW.dcU at e
  split at e
  · rename_i h
    cases e
    obtain ⟨o, ha, r⟩ := W.sto k a _ hc h
    cases r with
    | l r => have := r.noTag; cases this
    | k r => exact ⟨_, ha, rfl, r⟩
  · cases e
theorem Wd.dcG {mg : Glob} {N : Prot} {c : List Addr} {H : Hp} {st : Sto} (W : Wd mg N c H st) {k : Nat} {a : Addr} {p : List Key × List D} (hc : c[k]? = some a) (e : dcG st k = some p) : ∃ kvs, (H a = some (.dK kvs) ∨ ∃ od, H a = some (.frz od (.dK kvs))) ∧ kvs.map (·.1) = p.1 ∧ RepL mg N c H (kvs.map (·.2)) p.2 := by
  unfold LW.dcG at e
  split at e
  · rename_i h
    cases e
    obtain ⟨o, ha, r⟩ := W.sto k a _ hc h
    cases r with
    | l r => have := r.noTag; cases this
    | k r => exact ⟨_, .inl ha, rfl, r⟩
  · rename_i h
    cases e
    obtain ⟨o, ha, r⟩ := W.sto k a _ hc h
    cases r with
    | l r => have := r.noTag; cases this
    | kz r => exact ⟨_, .inr ⟨_, ha⟩, rfl, r⟩
  · cases e
section
variable {mg : Glob} {N N' N'' : Prot} {c c' c'' : List Addr} {H H' H'' : Hp} {st st' : Sto}
theorem Ex.refl : Ex N c H N c H := ⟨fun _ _ h _ => h, fun _ h => .inl h, fun _ h => h, fun _ _ h => h, fun _ h => .inl h⟩
theorem Ex.nc (x : Ex N c H N' c' H') (W : Wd mg N c H st) {a : Addr} {o : HO} (h : H a = some o) (n : a ∉ c) : a ∉ c' := fun z => (x.newc a z).elim n fun e => by rw [h] at e; cases e
theorem Ex.trans (x : Ex N c H N' c' H') (y : Ex N' c' H' N'' c'' H'') (W : Wd mg N c H st) : Ex N c H N'' c'' H'' where
  keep := fun a o h n => y.keep a o (x.keep a o h n) (x.nc W h n)
  new := fun a z => (y.new a z).elim (x.new a) fun e => by
    cases q : H a with
    | none => exact .inr rfl
    | some o =>
      by_cases hn : a ∈ c
      · exact .inl (W.cn a hn)
      · rw [x.keep a o q hn] at e; cases e
  mono := fun a z => y.mono a (x.mono a z)
  pre := fun k a h => y.pre k a (x.pre k a h)
  newc := fun a z => (y.newc a z).elim (x.newc a) fun e => by
    cases q : H a with
    | none => exact .inr rfl
    | some o =>
      by_cases hn : a ∈ c
      · exact .inl hn
      · rw [x.keep a o q hn] at e; cases e
theorem Wd.ntup (W : Wd mg N c H st) {a : Addr} {vs : List V} (h : H a = some (.tup vs)) : a ∉ c := fun z => by
  obtain ⟨k, hk⟩ := List.getElem?_of_mem z
  have hl : k < st.length := by rw [← W.len]; exact (List.getElem?_eq_some_iff.mp hk).1
  obtain ⟨o, ho, r⟩ := W.sto k a st[k] hk (List.getElem?_eq_getElem hl)
  rw [h] at ho
  cases ho
  cases r
theorem Ex.tr (x : Ex N c H N' c' H') (W : Wd mg N c H st) : Tr N c H N' c' H' := ⟨fun a o h n => x.keep a o h fun z => n (W.cn a z), x.new, x.pre, fun a vs h => x.keep a _ h (W.ntup h)⟩
theorem Ex.free (x : Ex N c H N' c' H') (W : Wd mg N c H st) (W' : Wd mg N' c' H' st') {a : Addr} (h : H' a = none) : H a = none := by
  cases q : H a with
  | none => rfl
  | some o =>
    by_cases hn : a ∈ c
    · exact absurd h (W'.trk a (x.mono a (W.cn a hn)))
    · rw [x.keep a o q hn] at h; cases h
theorem Wd.cnone (W : Wd mg N c H st) {a : Addr} (h : H a = none) : a ∉ c := fun z => W.trk a (W.cn a z) h
/-- an object is laid: as data -/
theorem Ex.laid (W : Wd mg N c H st) {p : Addr} {o : HO} (hp : H p = none) : Ex N c H N c (upd H p o) where
  keep := fun a u h _ => by rw [upd_ne (ne_of_none h hp)]; exact h
  new := fun _ h => .inl h
  mono := fun _ h => h
  pre := fun _ _ h => h
  newc := fun _ h => .inl h
/-- an object is laid and protected -/
theorem Ex.laidN (W : Wd mg N c H st) {p : Addr} {o : HO} (hp : H p = none) : Ex N c H (fun a => N a ∨ a = p) c (upd H p o) where
  keep := fun a u h _ => by rw [upd_ne (ne_of_none h hp)]; exact h
  new := fun a h => h.elim .inl fun e => by rw [e]; exact .inr hp
  mono := fun _ h => .inl h
  pre := fun _ _ h => h
  newc := fun _ h => .inl h
theorem Wd.ex0 (W : Wd mg N c H st) (x : Ex N c H N' c H') (hk : ∀ a o, H a = some o → H' a = some o) (hn : ∀ a, N' a → H' a ≠ none) : Wd mg N' c H' st :=
  ⟨W.len, fun k a xs h1 h2 => let ⟨vs, e, r⟩ := W.sto k a xs h1 h2; ⟨vs, hk _ _ e, r.tr (x.tr W)⟩, fun a h => x.mono a (W.cn a h), W.nd, hn⟩
theorem Wd.laid (W : Wd mg N c H st) {p : Addr} {o : HO} (hp : H p = none) : Wd mg N c (upd H p o) st :=
  W.ex0 (Ex.laid W hp) (fun a u h => by rw [upd_ne (ne_of_none h hp)]; exact h) fun a h e => by
    by_cases q : a = p
    · rw [q, upd_same] at e; cases e
    · rw [upd_ne q] at e; exact W.trk a h e
theorem Wd.laidN (W : Wd mg N c H st) {p : Addr} {o : HO} (hp : H p = none) : Wd mg (fun a => N a ∨ a = p) c (upd H p o) st :=
  W.ex0 (Ex.laidN W hp) (fun a u h => by rw [upd_ne (ne_of_none h hp)]; exact h) fun a h e => by
    by_cases q : a = p
    · rw [q, upd_same] at e; cases e
    · rw [upd_ne q] at e
      exact h.elim (fun z => W.trk a z e) q
/-- fewer protected ones -/
theorem Tr.less (h : ∀ a, N' a → N a) : Tr N c H N' c H := ⟨fun _ _ e _ => e, fun a z => .inl (h a z), fun _ _ e => e, fun _ _ e => e⟩
theorem Wd.less (W : Wd mg N c H st) (h : ∀ a, N' a → N a) (hc : ∀ a, a ∈ c → N' a) : Wd mg N' c H st :=
  ⟨W.len, fun k a xs h1 h2 => let ⟨vs, e, r⟩ := W.sto k a xs h1 h2; ⟨vs, e, r.tr (Tr.less h)⟩, hc, W.nd, fun a z => W.trk a (h a z)⟩
end

/-! ### slots and environments -/
/-- a slot: unknown; data; a list, an instance that this frame alone holds and may change -/
inductive Sl where
  | un | val (d : D) | own (xs : List D) | ownI (c : Str) (ns : List Str) (vs : List D) | ownD (ks : List Key) (vs : List D) | ownT (ks : List (List Key)) (vs : List D)
  deriving Inhabited
abbrev Env := List Sl
def Sl.isOwn : Sl → Bool
  | .own _ => true
  | .ownI _ _ _ => true
  | .ownD _ _ => true
  | .ownT _ _ => true
  | _ => false
def SlR (mg : Glob) (N : Prot) (c : List Addr) (H : Hp) : Sl → Option V → Prop
  | .un, _ => True
  | .val d, o => ∃ v, o = some v ∧ Rep mg N c H v d
  | .own xs, o => ∃ a vs, o = some (.ref a) ∧ H a = some (.lst vs) ∧ RepL mg N c H vs xs
  | .ownI cn ns ds, o => ∃ a C dx fs, o = some (.ref a) ∧ mg.mg cn = some (.ref C) ∧ H a = some (.ins C dx fs) ∧ fs.map (·.1) = ns ∧ RepL mg N c H (fs.map (·.2)) ds
  | .ownD ks ds, o => ∃ a kvs, o = some (.ref a) ∧ H a = some (.dK kvs) ∧ kvs.map (·.1) = ks ∧ RepL mg N c H (kvs.map (·.2)) ds
  | .ownT ks ds, o => ∃ a kvs, o = some (.ref a) ∧ H a = some (.dT kvs) ∧ kvs.map (·.1) = ks ∧ RepL mg N c H (kvs.map (·.2)) ds
/-- the entry of a def -/
structure En where
  H0 : Hp
  N0 : Prot
  c0 : List Addr
  self : Option Addr
structure Rel (mg : Glob) (E : En) (N : Prot) (c : List Addr) (env : Env) (st : Sto) (σ : L2.St) (H : Hp) : Prop where
  len : σ.length = env.length
  sl : ∀ (i : Nat) s, env[i]? = some s → SlR mg N c H s (σ[i]?.join)
  own : ∀ (i : Nat) s a, env[i]? = some s → s.isOwn = true → σ[i]? = some (some (.ref a)) → N a ∧ a ∉ c ∧ E.H0 a = none
  inj : ∀ (i j : Nat) s s' a, env[i]? = some s → s.isOwn = true → env[j]? = some s' → s'.isOwn = true → σ[i]? = some (some (.ref a)) → σ[j]? = some (some (.ref a)) → i = j
  wd : Wd mg N c H st
  n0 : ∀ a, E.N0 a → N a
  t0 : ∀ a, E.N0 a → E.H0 a ≠ none
  base : ∀ a o, E.H0 a = some o → a ∉ c → H a = some o
  pre : ∀ (k : Nat) a, E.c0[k]? = some a → c[k]? = some a
  newc : ∀ a, a ∈ c → a ∈ E.c0 ∨ E.H0 a = none
  slf : ∀ (i : Nat) cn ns ds a, env[i]? = some (.ownI cn ns ds) → σ[i]? = some (some (.ref a)) → E.self = some a
section
variable {mg : Glob} {E : En} {N N' : Prot} {c c' : List Addr} {H H' : Hp} {st st' : Sto} {env : Env} {σ : L2.St}
theorem join_some {α : Type} {o : Option (Option α)} {v : α} (h : o.join = some v) : o = some (some v) := by
  cases o with
  | none => cases h
  | some x => cases x with
    | none => cases h
    | some y => cases h; rfl
theorem SlR.ex (x : Ex N c H N' c' H') (W : Wd mg N c H st) {s : Sl} {o : Option V} (h : SlR mg N c H s o) (hn : s.isOwn = true → ∀ a, o = some (.ref a) → a ∉ c) : SlR mg N' c' H' s o := by
  cases s with
  | un => trivial
  | val d => obtain ⟨v, e, r⟩ := h; exact ⟨v, e, r.tr (x.tr W)⟩
  | own xs => obtain ⟨a, vs, e, ha, r⟩ := h; exact ⟨a, vs, e, x.keep _ _ ha (hn rfl a e), r.tr (x.tr W)⟩
  | ownI cn ns ds => obtain ⟨a, C, dx, fs, e, hc, ha, hm, r⟩ := h; exact ⟨a, C, dx, fs, e, hc, x.keep _ _ ha (hn rfl a e), hm, r.tr (x.tr W)⟩
  | ownD ks ds => obtain ⟨a, kvs, e, ha, hm, r⟩ := h; exact ⟨a, kvs, e, x.keep _ _ ha (hn rfl a e), hm, r.tr (x.tr W)⟩
  | ownT ks ds => obtain ⟨a, kvs, e, ha, hm, r⟩ := h; exact ⟨a, kvs, e, x.keep _ _ ha (hn rfl a e), hm, r.tr (x.tr W)⟩
theorem SlR.tracked {s : Sl} {o : Option V} (h : SlR mg N c H s o) (hs : s.isOwn = true) : ∃ a u, o = some (.ref a) ∧ H a = some u := by
  cases s with
  | un => cases hs
  | val d => cases hs
  | own xs => obtain ⟨a, vs, e, ha, r⟩ := h; exact ⟨a, _, e, ha⟩
  | ownI cn ns ds => obtain ⟨a, C, dx, fs, e, hc, ha, hm, r⟩ := h; exact ⟨a, _, e, ha⟩
  | ownD ks ds => obtain ⟨a, kvs, e, ha, hm, r⟩ := h; exact ⟨a, _, e, ha⟩
  | ownT ks ds => obtain ⟨a, kvs, e, ha, hm, r⟩ := h; exact ⟨a, _, e, ha⟩
theorem Rel.ex (R : Rel mg E N c env st σ H) (x : Ex N c H N' c' H') (W' : Wd mg N' c' H' st') : Rel mg E N' c' env st' σ H' where
  len := R.len
  sl := fun i s h => (R.sl i s h).ex x R.wd fun hs a e => (R.own i s a h hs (join_some e)).2.1
  own := fun i s a h hs e => by
    obtain ⟨n, nc, z⟩ := R.own i s a h hs e
    obtain ⟨b, u, eb, hb⟩ := (R.sl i s h).tracked hs
    rw [e] at eb
    cases eb
    exact ⟨x.mono a n, x.nc R.wd hb nc, z⟩
  inj := R.inj
  wd := W'
  n0 := fun a h => x.mono a (R.n0 a h)
  t0 := R.t0
  base := fun a o h n => by
    have nc : a ∉ c := fun z => n (by
      obtain ⟨k, hk⟩ := List.getElem?_of_mem z
      exact List.mem_of_getElem? (x.pre k a hk))
    exact x.keep a o (R.base a o h nc) nc
  pre := fun k a h => x.pre k a (R.pre k a h)
  newc := fun a h => (x.newc a h).elim (R.newc a) fun e => by
    cases q : E.H0 a with
    | none => exact .inr rfl
    | some o =>
      by_cases nc : a ∈ c
      · exact absurd e (R.wd.trk a (R.wd.cn a nc))
      · rw [R.base a o q nc] at e; cases e
  slf := R.slf
end

/-! ### readings by plain functions -/
abbrev Fx (α : Type) := Env → Sto → Option (α × Sto)
abbrev SE := Fx D
/-- what is told of a value: by the state ahead and the state behind -/
abbrev Told (α : Type) := Prot → List Addr → Hp → Prot → List Addr → Hp → V → α → Prop
def tX {α : Type} (mg : Glob) (R : Told α) (f : Fx α) : TE := fun σ H Q => ∃ (E : En) (N : Prot) (c : List Addr) (env : Env) (st : Sto) (d : α) (st' : Sto), Rel mg E N c env st σ H ∧ f env st = some (d, st') ∧
  ∀ v N' c' H', Ex N c H N' c' H' → Wd mg N' c' H' st' → R N c H N' c' H' v d → Q v H'
/-- data -/
def RE (mg : Glob) : Told D := fun _ _ _ N' c' H' v d => Rep mg N' c' H' v d
/-- data, or a list of the frame's own, looked at -/
def RepT (mg : Glob) (N : Prot) (c : List Addr) (H : Hp) (v : V) (d : D) : Prop :=
  Rep mg N c H v d ∨ ∃ a vs xs, v = .ref a ∧ d = .lst xs ∧ H a = some (.lst vs) ∧ a ∉ c ∧ RepL mg N c H vs xs
def RP (mg : Glob) : Told D := fun _ _ _ N' c' H' v d => RepT mg N' c' H' v d
/-- a new list, protected -/
def RN (mg : Glob) : Told (List D) := fun _ _ H N' c' H' v xs => ∃ p vs, v = .ref p ∧ H p = none ∧ N' p ∧ p ∉ c' ∧ H' p = some (.lst vs) ∧ RepL mg N' c' H' vs xs
abbrev tE (mg : Glob) (f : SE) : TE := tX mg (RE mg) f
abbrev tP (mg : Glob) (f : SE) : TE := tX mg (RP mg) f
abbrev tL (mg : Glob) (f : Fx (List D)) : TE := tX mg (RN mg) f
/-- the list as data -/
def eL (f : Fx (List D)) : SE := fun env st => (f env st).map fun p => (.lst p.1, p.2)

section
variable {X : Cx} {e : Expr}
theorem pe_weak {t t' : TE} (h : PE X e t) (w : ∀ σ H Q, t' σ H Q → t σ H Q) : PE X e t' := ⟨fun pins s σ H Q I q => h.run pins s σ H Q I (w σ H Q q)⟩
theorem pt_weak {t t' : TT} (h : PT X e t) (w : ∀ σ H Q, t' σ H Q → t σ H Q) : PT X e t' := ⟨fun pins s σ H Q I q => h.run pins s σ H Q I (w σ H Q q)⟩
theorem pa_weak {es : List Expr} {t t' : TA} (h : PA X es t) (w : ∀ σ H Q, t' σ H Q → t σ H Q) : PA X es t' := ⟨fun pos pins s σ H Q I q => h.run pos pins s σ H Q I (w σ H Q q)⟩
theorem ps_weak {s : Stmt} {t t' : TS} (h : PS X s t) (w : ∀ D σ H, t' D σ H → t D σ H) : PS X s t' := ⟨fun pins s σ H D I q => h.run pins s σ H D I (w D σ H q)⟩
theorem pss_weak {s : List Stmt} {t t' : TS} (h : PSs X s t) (w : ∀ D σ H, t' D σ H → t D σ H) : PSs X s t' := ⟨fun pins s σ H D I q => h.run pins s σ H D I (w D σ H q)⟩
theorem pi_weak {tg it : Expr} {t t' : TI} (h : PI X tg it t) (w : ∀ σ H R, t' σ H R → t σ H R) : PI X tg it t' := ⟨fun pins s σ H R I q => h.run pins s σ H R I (w σ H R q)⟩
end
section
variable {mg : Glob} {N N' : Prot} {c c' : List Addr} {H H' : Hp} {st st' : Sto} {v : V} {d : D} {X : Cx} {e : Expr}
theorem RepT.ex (x : Ex N c H N' c' H') (W : Wd mg N c H st) (h : RepT mg N c H v d) : RepT mg N' c' H' v d := by
  rcases h with h | ⟨a, vs, xs, rfl, rfl, ha, nc, r⟩
  · exact .inl (h.tr (x.tr W))
  · exact .inr ⟨a, vs, xs, rfl, rfl, x.keep _ _ ha nc, x.nc W ha nc, r.tr (x.tr W)⟩
/-- data may be looked at -/
theorem d_peek {f : SE} (h : PE X e (tE mg f)) : PE X e (tP mg f) := pe_weak h fun σ H Q ⟨E, N, c, env, st, d, st', R, q, k⟩ => ⟨E, N, c, env, st, d, st', R, q, fun v N' c' H' x W r => k v N' c' H' x W (.inl r)⟩
/-- a new list is data: protected no more -/
theorem RN.give {xs : List D} (W : Wd mg N c H st) (x : Ex N c H N' c' H') (W' : Wd mg N' c' H' st') (h : RN mg N c H N' c' H' v xs) : ∃ N'', Ex N c H N'' c' H' ∧ Wd mg N'' c' H' st' ∧ Rep mg N'' c' H' v (.lst xs) := by
  obtain ⟨p, vs, rfl, hp, np, nc, hv, r⟩ := h
  have less : ∀ a, (N' a ∧ a ≠ p) → N' a := fun a z => z.1
  refine ⟨fun a => N' a ∧ a ≠ p, ⟨x.keep, fun a z => x.new a z.1, fun a z => ⟨x.mono a z, fun e => W.trk a z (by rw [e]; exact hp)⟩, x.pre, x.newc⟩, W'.less less fun a z => ⟨W'.cn a z, fun e => nc (e ▸ z)⟩, ?_⟩
  exact .lst hv (fun z => z.2 rfl) (r.tr (Tr.less less))
theorem d_give {f : Fx (List D)} (h : PE X e (tL mg f)) : PE X e (tE mg (eL f)) := pe_weak h fun σ H Q ⟨E, N, c, env, st, d, st', R, q, k⟩ => by
  unfold eL at q
  cases qf : f env st with
  | none => rw [qf] at q; cases q
  | some p =>
    obtain ⟨xs, s1⟩ := p
    rw [qf] at q
    cases q
    refine ⟨E, N, c, env, st, xs, _, R, qf, fun v N' c' H' x W r => ?_⟩
    obtain ⟨N'', x2, W2, r2⟩ := r.give R.wd x W
    exact k v N'' c' H' x2 W2 r2
end
end LW

/-! LwB: expressions: names, constants, operators, comparisons, tests, displays, subscripts, slices. -/
namespace LW
open PySem L2 PyProof.Rows

/-- what is told can be carried back to an earlier state -/
def Back {α : Type} (mg : Glob) (R : Told α) : Prop := ∀ {N : Prot} {c : List Addr} {H : Hp} {st : Sto} {N1 : Prot} {c1 : List Addr} {H1 : Hp} {st1 : Sto} {N' : Prot} {c' : List Addr} {H' : Hp} {v : V} {d : α},
  Wd mg N c H st → Ex N c H N1 c1 H1 → Wd mg N1 c1 H1 st1 → R N1 c1 H1 N' c' H' v d → R N c H N' c' H' v d
section
variable {mg : Glob}
theorem back_E : Back mg (RE mg) := fun _ _ _ h => h
theorem back_N : Back mg (RN mg) := fun W x W1 ⟨p, vs, e, hp, r⟩ => ⟨p, vs, e, x.free W W1 hp, r⟩
end

/-! ### names and constants -/
def eVar (i : Nat) : SE := fun env st => match env[i]? with
  | some (.val d) => some (d, st)
  | _ => none
def ePeek (i : Nat) : SE := fun env st => match env[i]? with
  | some (.own xs) => some (.lst xs, st)
  | some (.val d) => some (d, st)
  | _ => none
def eC (d : D) : SE := fun _ st => some (d, st)
section
variable {mg : Glob} {X : Cx} {x : Str} {pos : Pos} {i : Nat}
theorem r_var {σ : L2.St} {H : Hp} {Q : VK} (h : tE mg (eVar i) σ H Q) : tVar i σ H Q := by
  obtain ⟨E, N, c, env, st, d, st', R, q, k⟩ := h
  unfold eVar at q
  split at q
  · rename_i d0 he
    cases q
    obtain ⟨v, e, r⟩ := R.sl i _ he
    exact ⟨v, join_some e, k v N c H Ex.refl R.wd r⟩
  · cases q
theorem d_var (i : Nat) {x : Str} {pos : Pos} (hN : X.N[i]? = some x := by rfl) (hv : Vis X.env.scope x := by first | exact Or.inl rfl | exact Or.inr (Or.inl rfl) | exact Or.inr (Or.inr rfl)) (hd : (x == ("__debug__" : Str)) = false := by decide)
    (hcd : (x == ("__classdict__" : Str)) = false := by decide) : PE X (.Name x pos) (tE mg (eVar i)) := pe_weak (pe_var hN hv hd hcd) fun _ _ _ h => r_var h
theorem r_peek {σ : L2.St} {H : Hp} {Q : VK} (h : tP mg (ePeek i) σ H Q) : tVar i σ H Q := by
  obtain ⟨E, N, c, env, st, d, st', R, q, k⟩ := h
  unfold ePeek at q
  split at q
  · rename_i xs he
    cases q
    obtain ⟨a, vs, e, ha, r⟩ := R.sl i _ he
    obtain ⟨n1, n2, n3⟩ := R.own i _ a he rfl (join_some e)
    exact ⟨.ref a, join_some e, k _ N c H Ex.refl R.wd (.inr ⟨a, vs, xs, rfl, rfl, ha, n2, r⟩)⟩
  · rename_i d0 he
    cases q
    obtain ⟨v, e, r⟩ := R.sl i _ he
    exact ⟨v, join_some e, k v N c H Ex.refl R.wd (.inl r)⟩
  · cases q
theorem d_look (i : Nat) {x : Str} {pos : Pos} (hN : X.N[i]? = some x := by rfl) (hv : Vis X.env.scope x := by first | exact Or.inl rfl | exact Or.inr (Or.inl rfl) | exact Or.inr (Or.inr rfl)) (hd : (x == ("__debug__" : Str)) = false := by decide)
    (hcd : (x == ("__classdict__" : Str)) = false := by decide) : PE X (.Name x pos) (tP mg (ePeek i)) := pe_weak (pe_var hN hv hd hcd) fun _ _ _ h => r_peek h
theorem r_c {v : V} {d : D} (hr : ∀ N c H, Rep mg N c H v d) {σ : L2.St} {H : Hp} {Q : VK} (h : tE mg (eC d) σ H Q) : tC v σ H Q := by
  obtain ⟨E, N, c, env, st, d', st', R, q, k⟩ := h
  cases q
  exact k v N c H Ex.refl R.wd (hr N c H)
theorem d_int {i : Int} {j pos} : PE X (.Constant (.int i) j pos) (tE mg (eC (.int i))) := pe_weak pe_int fun _ _ _ h => r_c (fun _ _ _ => .int i) h
theorem d_bl {b : Bool} {j pos} : PE X (.Constant (.bool b) j pos) (tE mg (eC (.bl b))) := pe_weak pe_bl fun _ _ _ h => r_c (fun _ _ _ => .bl b) h
theorem d_non {j pos} : PE X (.Constant .none j pos) (tE mg (eC .non)) := pe_weak pe_non fun _ _ _ h => r_c (fun _ _ _ => .non) h
theorem d_str {x : Str} {j pos} : PE X (.Constant (.str x) j pos) (tE mg (eC (.str x))) := pe_weak pe_str fun _ _ _ h => r_c (fun _ _ _ => .str x) h
/-- a constant of the module, a built-in class -/
theorem d_glob {x : Str} {v : V} {d : D} {u : Value} (hg : Gl X x) (hm : X.mg x = some u) (r : RelV v u) (hr : ∀ N c H, Rep mg N c H v d) (hd : (x == ("__debug__" : Str)) = false := by decide) : PE X (.Name x pos) (tE mg (eC d)) :=
  pe_weak (pe_glob hg hm r hd) fun _ _ _ h => r_c hr h
theorem d_ty {x : Str} {n : String} (hg : Gl X x) (hm : X.mg x = none) (hv : bootBuiltins x = some (.type n)) (hn : x ≠ "__name__" := by decide) (hd : (x == ("__debug__" : Str)) = false := by decide) : PE X (.Name x pos) (tE mg (eC (.ty n))) :=
  pe_weak (pe_bltn (v := .ty n) hg hm hv rfl hn hd) fun _ _ _ h => r_c (fun _ _ _ => .ty n) h
end

/-! ### what stands behind a value -/
/-- a list that may be joined to others; a list that may be read -/
def lstM (st : Sto) : D → Option (List D)
  | .lst xs => some xs
  | .cell k => lcG st k
  | _ => none
def lstR (st : Sto) : D → Option (List D)
  | .fro xs => some xs
  | d => lstM st d
section
variable {mg : Glob} {N : Prot} {c : List Addr} {H : Hp} {st : Sto} {u : V} {x : D}
theorem RepT.non (h : RepT mg N c H u .non) : u = .non := by
  rcases h with h | ⟨_, _, _, _, e, _⟩
  · cases h; rfl
  · cases e
theorem RepT.bl {b : Bool} (h : RepT mg N c H u (.bl b)) : u = .bl b := by
  rcases h with h | ⟨_, _, _, _, e, _⟩
  · cases h; rfl
  · cases e
theorem RepT.int {i : Int} (h : RepT mg N c H u (.int i)) : u = .int i := by
  rcases h with h | ⟨_, _, _, _, e, _⟩
  · cases h; rfl
  · cases e
theorem RepT.str {z : Str} (h : RepT mg N c H u (.str z)) : u = .str z := by
  rcases h with h | ⟨_, _, _, _, e, _⟩
  · cases h; rfl
  · cases e
theorem RepT.ty {n : String} (h : RepT mg N c H u (.ty n)) : u = .ty n := by
  rcases h with h | ⟨_, _, _, _, e, _⟩
  · cases h; rfl
  · cases e
theorem RepT.tup {xs : List D} (h : RepT mg N c H u (.tup xs)) : ∃ a vs, u = .ref a ∧ H a = some (.tup vs) ∧ RepL mg N c H vs xs := by
  rcases h with h | ⟨_, _, _, _, e, _⟩
  · cases h with
    | tup h r => exact ⟨_, _, rfl, h, r⟩
  · cases e
theorem RepT.lst {xs : List D} (W : Wd mg N c H st) (h : RepT mg N c H u x) (e : lstM st x = some xs) : ∃ a vs, u = .ref a ∧ H a = some (.lst vs) ∧ RepL mg N c H vs xs := by
  rcases h with h | ⟨a, vs, ys, rfl, rfl, ha, _, r⟩
  · cases h with
    | lst h n r => cases e; exact ⟨_, _, rfl, h, r⟩
    | cell hc =>
      obtain ⟨vs, ha, r⟩ := W.lstC hc e
      exact ⟨_, _, rfl, ha, r⟩
    | _ => cases e
  · cases e
    exact ⟨a, vs, rfl, ha, r⟩
theorem RepT.read {xs : List D} (W : Wd mg N c H st) (h : RepT mg N c H u x) (e : lstR st x = some xs) : ∃ a vs, u = .ref a ∧ SqL mg.K H a vs ∧ RepL mg N c H vs xs := by
  by_cases hf : ∃ ys, x = .fro ys
  · obtain ⟨ys, rfl⟩ := hf
    cases e
    rcases h with h | ⟨_, _, _, _, e, _⟩
    · cases h with
      | fro h n r => exact ⟨_, _, rfl, .inl (.inr ⟨_, h⟩), r⟩
      | kro h => exact ⟨_, _, rfl, h H, RepL.ints _⟩
    · cases e
  · have e2 : lstM st x = some xs := by
      cases x <;> first | exact e | exact absurd ⟨_, rfl⟩ hf
    obtain ⟨a, vs, e1, ha, r⟩ := RepT.lst W h e2
    exact ⟨a, vs, e1, SqL.of ha, r⟩
theorem Rep.isNon {d : D} {v : V} (h : Rep mg N c H v d) : (v = .non) ↔ (d = .non) := by
  constructor
  · intro e; subst e; cases h; rfl
  · intro e; subst e; cases h; rfl
theorem RepT.isNon {d : D} {v : V} (h : RepT mg N c H v d) : (v = .non) ↔ (d = .non) := by
  rcases h with h | ⟨_, _, _, e1, e2, _⟩
  · exact h.isNon
  · rw [e1, e2]; exact ⟨(fun z => nomatch z), (fun z => nomatch z)⟩
end

/-! ### two operands -/
def eOp {α : Type} (op : D → D → Sto → Option α) (a b : SE) : Fx α := fun env st => match a env st with
  | none => none
  | some (x, s1) => match b env s1 with
    | none => none
    | some (y, s2) => match op x y s2 with
      | none => none
      | some d => some (d, s2)
def OpOk {α : Type} (mg : Glob) (R : Told α) (r : R2) (op : D → D → Sto → Option α) : Prop := ∀ (N : Prot) (c : List Addr) (H : Hp) (st : Sto) (u v : V) (x y : D) (d : α) (Q : VK), Wd mg N c H st → RepT mg N c H u x → RepT mg N c H v y → op x y st = some d →
  (∀ w N' c' H', Ex N c H N' c' H' → Wd mg N' c' H' st → R N c H N' c' H' w d → Q w H') → r u v H Q
def orO {α : Type} (f g : D → D → Sto → Option α) : D → D → Sto → Option α := fun x y st => match f x y st with
  | some d => some d
  | none => g x y st
def asL (f : D → D → Sto → Option (List D)) : D → D → Sto → Option D := fun x y st => match f x y st with
  | some xs => some (.lst xs)
  | none => none
section
variable {α : Type} {mg : Glob} {R : Told α} {r r' : R2} {op op' : D → D → Sto → Option α} {fa fb : SE} {X : Cx} {a b : Expr} {pos : Pos}
theorem r_op (hk : OpOk mg R r op) (hb : Back mg R) {σ : L2.St} {H : Hp} {Q : VK} (h : tX mg R (eOp op fa fb) σ H Q) : tOp r (tP mg fa) (tP mg fb) σ H Q := by
  obtain ⟨E, N, c, env, st, d, st', R0, q, k⟩ := h
  unfold eOp at q
  split at q
  · cases q
  · rename_i x s1 q1
    split at q
    · cases q
    · rename_i y s2 q2
      split at q
      · cases q
      · rename_i d0 q3
        cases q
        refine ⟨E, N, c, env, st, x, s1, R0, q1, fun v1 N1 c1 H1 x1 W1 p1 => ?_⟩
        refine ⟨E, N1, c1, env, s1, y, _, R0.ex x1 W1, q2, fun v2 N2 c2 H2 x2 W2 p2 => ?_⟩
        have x12 := x1.trans x2 R0.wd
        refine hk N2 c2 H2 _ v1 v2 x y _ Q W2 (RepT.ex x2 W1 p1) p2 q3 fun w N' c' H' x3 W3 p3 => ?_
        exact k w N' c' H' (x12.trans x3 R0.wd) W3 (hb R0.wd x12 W2 p3)
theorem OpOk.or (h : OpOk mg R r op) (h' : OpOk mg R r' op') : OpOk mg R (fun x y H Q => r x y H Q ∨ r' x y H Q) (orO op op') := by
  intro N c H st u v x y d Q W p1 p2 e k
  unfold orO at e
  split at e
  · rename_i d0 e0
    cases e
    exact .inl (h N c H st u v x y _ Q W p1 p2 e0 k)
  · exact .inr (h' N c H st u v x y d Q W p1 p2 e k)
theorem d_bin {o : Operator} (ho : OpR X (binaryOp o) r) (hk : OpOk mg R r op) (hb : Back mg R) (ha : PE X a (tP mg fa)) (hb' : PE X b (tP mg fb)) : PE X (.BinOp a o b pos) (tX mg R (eOp op fa fb)) :=
  pe_weak (pe_op ho ha hb') fun _ _ _ h => r_op hk hb h
theorem d_cmp {o : CmpOp} (ho : OpR X (compareOp o) r) (hk : OpOk mg R r op) (hb : Back mg R) (ha : PE X a (tP mg fa)) (hb' : PE X b (tP mg fb)) (hm : behindInMarks o b = false) : PE X (.Compare a [o] [b] pos) (tX mg R (eOp op fa fb)) :=
  pe_weak (pe_cmpR ho ha hb' hm) fun _ _ _ h => r_op hk hb h
end

/-! ### whole numbers -/
def iOp (C : Int → Int → Bool) (g : Int → Int → D) : D → D → Sto → Option D := fun x y _ => match x, y with
  | .int i, .int j => if C i j = true then some (g i j) else none
  | _, _ => none
theorem ok_I {mg : Glob} {C : Int → Int → Bool} {P : Int → Int → Prop} {g : Int → Int → D} {gv : Int → Int → V} (hC : ∀ i j, C i j = true → P i j) (hg : ∀ i j N c H, Rep mg N c H (gv i j) (g i j)) : OpOk mg (RE mg) (rI P gv) (iOp C g) := by
  intro N c H st u v x y d Q W p1 p2 e k
  unfold iOp at e
  split at e
  · rename_i i j
    split at e
    · rename_i hc
      cases e
      exact ⟨i, j, p1.int, p2.int, hC i j hc, k _ N c H Ex.refl W (hg i j N c H)⟩
    · cases e
  · cases e
theorem ok_I0 {mg : Glob} {g : Int → Int → D} {gv : Int → Int → V} (hg : ∀ i j N c H, Rep mg N c H (gv i j) (g i j)) : OpOk mg (RE mg) (rI0 gv) (iOp (fun _ _ => true) g) := by
  intro N c H st u v x y d Q W p1 p2 e k
  unfold iOp at e
  split at e
  · rename_i i j
    split at e
    · cases e
      exact ⟨i, j, p1.int, p2.int, k _ N c H Ex.refl W (hg i j N c H)⟩
    · cases e
  · cases e
def mulC (i j : Int) : Bool := (decide (-(2 ^ 64) < i) && decide (i < 2 ^ 64)) || (decide (-(2 ^ 64) < j) && decide (j < 2 ^ 64)) || decide ((Builtin.Int.intBits i : Int) + (Builtin.Int.intBits j : Int) ≤ 134217728)
def divC (_ j : Int) : Bool := decide (0 < j) && decide (j.natAbs.log2 < 9000)
def modC (_ j : Int) : Bool := decide (0 < j)
def powC (i j : Int) : Bool := decide (0 ≤ j) && decide ((Builtin.Int.intBits i : Int) * j ≤ 134217728)
theorem mulC_ok {i j : Int} (h : mulC i j = true) : IntMulOk i j := by
  unfold mulC at h
  rw [Bool.or_eq_true, Bool.or_eq_true, Bool.and_eq_true, Bool.and_eq_true] at h
  rcases h with (h | h) | h
  · exact CMul.ok (.inl ⟨of_decide_eq_true h.1, of_decide_eq_true h.2⟩)
  · exact CMul.ok (.inr ⟨of_decide_eq_true h.1, of_decide_eq_true h.2⟩)
  · exact CMulX.ok (show (Builtin.Int.intBits i : Int) + (Builtin.Int.intBits j : Int) ≤ 134217728 from of_decide_eq_true h)
theorem divC_ok {i j : Int} (h : divC i j = true) : CDivW i j := by
  unfold divC at h
  rw [Bool.and_eq_true] at h
  exact ⟨of_decide_eq_true h.1, of_decide_eq_true h.2⟩
section
variable {X : Cx} {mg : Glob}
theorem op_mulA : OpR X (binaryOp .Mult) (rI (fun i j => mulC i j = true) fun i j => .int (i * j)) := opI fun _ _ _ _ _ _ _ hc q => mul_int q (mulC_ok hc)
theorem op_powA : OpR X (binaryOp .Pow) (rI (fun i j => powC i j = true) fun i j => .int (i ^ j.toNat)) := opI fun i j _ _ _ _ _ hc q => by
  have hc : powC i j = true := hc
  unfold powC at hc
  rw [Bool.and_eq_true] at hc
  exact pow_int (of_decide_eq_true hc.1) (of_decide_eq_true hc.2) q
end
abbrev oSub := iOp (fun _ _ => true) fun i j => .int (i - j)
abbrev oMul := iOp mulC fun i j => .int (i * j)
abbrev oDiv := iOp divC fun i j => .int (i / j)
abbrev oMod := iOp modC fun i j => .int (i % j)
abbrev oPow := iOp powC fun i j => .int (i ^ j.toNat)
abbrev oLt := iOp (fun _ _ => true) fun i j => .bl (decide (i < j))
abbrev oLe := iOp (fun _ _ => true) fun i j => .bl (decide (i ≤ j))
abbrev oGt := iOp (fun _ _ => true) fun i j => .bl (decide (j < i))
abbrev oGe := iOp (fun _ _ => true) fun i j => .bl (decide (j ≤ i))
section
variable {X : Cx} {mg : Glob} {a b : Expr} {pos : Pos} {fa fb : SE}
theorem d_sub (ha : PE X a (tP mg fa)) (hb : PE X b (tP mg fb)) : PE X (.BinOp a .Sub b pos) (tE mg (eOp oSub fa fb)) := d_bin op_sub (ok_I0 fun i j _ _ _ => .int (i - j)) back_E ha hb
theorem d_mul (ha : PE X a (tP mg fa)) (hb : PE X b (tP mg fb)) : PE X (.BinOp a .Mult b pos) (tE mg (eOp oMul fa fb)) := d_bin op_mulA (ok_I (fun _ _ h => h) fun i j _ _ _ => .int (i * j)) back_E ha hb
theorem d_div (ha : PE X a (tP mg fa)) (hb : PE X b (tP mg fb)) : PE X (.BinOp a .FloorDiv b pos) (tE mg (eOp oDiv fa fb)) := d_bin op_fdivW (ok_I (fun _ _ h => divC_ok h) fun i j _ _ _ => .int (i / j)) back_E ha hb
theorem d_mod (ha : PE X a (tP mg fa)) (hb : PE X b (tP mg fb)) : PE X (.BinOp a .Mod b pos) (tE mg (eOp oMod fa fb)) := d_bin op_mod (ok_I (fun _ _ h => of_decide_eq_true h) fun i j _ _ _ => .int (i % j)) back_E ha hb
theorem d_pow (ha : PE X a (tP mg fa)) (hb : PE X b (tP mg fb)) : PE X (.BinOp a .Pow b pos) (tE mg (eOp oPow fa fb)) := d_bin op_powA (ok_I (fun _ _ h => h) fun i j _ _ _ => .int _) back_E ha hb
theorem d_lt (ha : PE X a (tP mg fa)) (hb : PE X b (tP mg fb)) : PE X (.Compare a [.Lt] [b] pos) (tE mg (eOp oLt fa fb)) := d_cmp op_lt (ok_I0 fun i j _ _ _ => .bl _) back_E ha hb (nomark _)
theorem d_le (ha : PE X a (tP mg fa)) (hb : PE X b (tP mg fb)) : PE X (.Compare a [.LtE] [b] pos) (tE mg (eOp oLe fa fb)) := d_cmp op_le (ok_I0 fun i j _ _ _ => .bl _) back_E ha hb (nomark _)
theorem d_gt (ha : PE X a (tP mg fa)) (hb : PE X b (tP mg fb)) : PE X (.Compare a [.Gt] [b] pos) (tE mg (eOp oGt fa fb)) := d_cmp op_gt (ok_I0 fun i j _ _ _ => .bl _) back_E ha hb (nomark _)
theorem d_ge (ha : PE X a (tP mg fa)) (hb : PE X b (tP mg fb)) : PE X (.Compare a [.GtE] [b] pos) (tE mg (eOp oGe fa fb)) := d_cmp op_ge (ok_I0 fun i j _ _ _ => .bl _) back_E ha hb (nomark _)
end

/-! ### adding -/
def oCat : D → D → Sto → Option (List D) := fun x y st => match lstM st x, lstM st y with
  | some xs, some ys => if xs.length + ys.length ≤ 1000000 then some (xs ++ ys) else none
  | _, _ => none
def oCatS : D → D → Sto → Option D := fun x y _ => match x, y with
  | .str s, .str t => if s.length + t.length ≤ 1000000 then some (.str (s ++ t)) else none
  | _, _ => none
def oCatT : D → D → Sto → Option D := fun x y _ => match x, y with
  | .tup xs, .tup ys => if xs.length + ys.length ≤ 1000000 then some (.tup (xs ++ ys)) else none
  | _, _ => none
theorem sz6 {n : Nat} (h : n ≤ 1000000) : n ≤ sizeLine := Nat.le_trans h (by decide)
section
variable {mg : Glob}
theorem RN.laid {N : Prot} {c : List Addr} {H : Hp} {st : Sto} {vs : List V} {xs : List D} {p : Addr} (W : Wd mg N c H st) (hp : H p = none) (r : RepL mg N c H vs xs) : RN mg N c H (fun a => N a ∨ a = p) c (upd H p (.lst vs)) (.ref p) xs :=
  ⟨p, vs, rfl, hp, .inr rfl, W.cnone hp, upd_same, r.tr ((Ex.laidN W hp).tr W)⟩
theorem Rep.laidT {N : Prot} {c : List Addr} {H : Hp} {st : Sto} {vs : List V} {xs : List D} {p : Addr} (W : Wd mg N c H st) (hp : H p = none) (r : RepL mg N c H vs xs) : Rep mg N c (upd H p (.tup vs)) (.ref p) (.tup xs) :=
  .tup upd_same (r.tr ((Ex.laid W hp).tr W))
theorem ok_cat : OpOk mg (RN mg) rCat oCat := by
  intro N c H st u v x y d Q W p1 p2 e k
  unfold oCat at e
  split at e
  · rename_i xs ys e1 e2
    split at e
    · rename_i hl
      cases e
      obtain ⟨a, vs, rfl, ha, r1⟩ := RepT.lst W p1 e1
      obtain ⟨b, us, rfl, hb, r2⟩ := RepT.lst W p2 e2
      refine ⟨a, b, vs, us, rfl, rfl, ha, hb, sz6 (by rw [r1.length, r2.length]; exact hl), fun p hp => ?_⟩
      exact k _ _ _ _ (Ex.laidN W hp) (W.laidN hp) (RN.laid W hp (r1.append r2))
    · cases e
  · cases e
theorem OpOk.give {r : R2} {op : D → D → Sto → Option (List D)} (h : OpOk mg (RN mg) r op) : OpOk mg (RE mg) r (asL op) := by
  intro N c H st u v x y d Q W p1 p2 e k
  unfold asL at e
  split at e
  · rename_i xs e0
    cases e
    refine h N c H st u v x y xs Q W p1 p2 e0 fun w N' c' H' x W' r => ?_
    obtain ⟨N'', x2, W2, r2⟩ := r.give W x W'
    exact k w N'' c' H' x2 W2 r2
  · cases e
theorem ok_catS : OpOk mg (RE mg) (fun x y H Q => ∃ i j, x = .str i ∧ y = .str j ∧ i.length + j.length ≤ sizeLine ∧ Q (.str (i ++ j)) H) oCatS := by
  intro N c H st u v x y d Q W p1 p2 e k
  unfold oCatS at e
  split at e
  · rename_i i j
    split at e
    · rename_i hl
      cases e
      exact ⟨i, j, p1.str, p2.str, sz6 hl, k _ N c H Ex.refl W (.str _)⟩
    · cases e
  · cases e
theorem ok_catT {K : PySem.W.Frag} : OpOk mg (RP mg) (rCatA K) oCatT := by
  intro N c H st u v x y d Q W p1 p2 e k
  unfold oCatT at e
  split at e
  · rename_i xs ys
    split at e
    · rename_i hl
      cases e
      obtain ⟨a, vs, rfl, ha, r1⟩ := p1.tup
      obtain ⟨b, us, rfl, hb, r2⟩ := p2.tup
      have l1 := r1.length
      have l2 := r2.length
      refine ⟨a, b, vs, us, rfl, rfl, SqT.of ha, SqT.of hb, sz6 (by omega), fun e0 => ?_, fun n1 e0 => ?_, fun n1 n2 p hp => ?_⟩
      · subst e0
        cases r1
        exact k _ N c H Ex.refl W p2
      · subst e0
        cases r2
        rw [List.append_nil] at k
        exact k _ N c H Ex.refl W p1
      · exact k _ _ _ _ (Ex.laid W hp) (W.laid hp) (.inl (Rep.laidT W hp (r1.append r2)))
    · cases e
  · cases e
theorem ok_catT' {K : PySem.W.Frag} : OpOk mg (RE mg) (rCatA K) oCatT := by
  intro N c H st u v x y d Q W p1 p2 e k
  refine ok_catT N c H st u v x y d Q W p1 p2 e fun w N' c' H' x W' r => k w N' c' H' x W' ?_
  have : ∃ zs, d = .tup zs := by
    unfold oCatT at e
    split at e
    · split at e
      · cases e; exact ⟨_, rfl⟩
      · cases e
    · cases e
  obtain ⟨zs, rfl⟩ := this
  rcases r with r | ⟨_, _, _, _, e, _⟩
  · exact r
  · cases e
end
/-- x + y as data: ints, texts, lists, tuples -/
abbrev oAdd : D → D → Sto → Option D := orO (iOp (fun _ _ => true) fun i j => .int (i + j)) (orO oCatS (orO (asL oCat) oCatT))
section
variable {X : Cx} {mg : Glob} {a b : Expr} {pos : Pos} {fa fb : SE}
theorem d_add (ha : PE X a (tP mg fa)) (hb : PE X b (tP mg fb)) : PE X (.BinOp a .Add b pos) (tE mg (eOp oAdd fa fb)) :=
  d_bin (OpR.or op_add (OpR.or op_add_str (OpR.or op_cat op_catA))) (OpOk.or (ok_I0 fun i j _ _ _ => .int (i + j)) (OpOk.or ok_catS (OpOk.or ok_cat.give ok_catT'))) back_E ha hb
end
end LW

/-! LwC: equality, is None, in; tests, and, or, not, if; argument lists, displays; subscripts, slices. -/
namespace LW
open PySem L2 PyProof.Rows

/-! ### equality of data -/
def mapO {α β : Type} (f : α → Option β) : List α → Option (List β)
  | [] => some []
  | x :: r => match f x with
    | none => none
    | some y => match mapO f r with
      | none => none
      | some ys => some (y :: ys)
/-- data as the library's data: no instances, no dicts; n: how deep -/
def toPy : Nat → Sto → D → Option PyData
  | 0, _, _ => none
  | n + 1, st, d => match d with
    | .non => some .none
    | .bl b => some (.bool b)
    | .int i => some (.int i)
    | .str x => if PyData.strOk x = true then some (.str x) else none
    | .tup xs => match mapO (toPy n st) xs with
      | some ps => some (.tuple ps)
      | none => none
    | .lst xs => match mapO (toPy n st) xs with
      | some ps => some (.list ps)
      | none => none
    | .fro xs => match mapO (toPy n st) xs with
      | some ps => some (.list ps)
      | none => none
    | .cell k => match lcG st k with
      | none => none
      | some xs => match mapO (toPy n st) xs with
        | some ps => some (.list ps)
        | none => none
    | _ => none
theorem depthAll_le {n : Nat} {f : D → Option PyData} (h : ∀ x p, f x = some p → p.depth ≤ n ∧ p.canLay0 = true) : ∀ (xs : List D) (ps : List PyData), mapO f xs = some ps → PyData.depthAll ps ≤ n ∧ PyData.canLayAll0 ps = true
  | [], ps, e => by
    cases e
    exact ⟨Nat.zero_le _, rfl⟩
  | x :: r, ps, e => by
    unfold mapO at e
    split at e
    · cases e
    · rename_i y hy
      split at e
      · cases e
      · rename_i ys hys
        cases e
        obtain ⟨h1, h2⟩ := h x y hy
        obtain ⟨h3, h4⟩ := depthAll_le h r ys hys
        refine ⟨?_, ?_⟩
        · show max y.depth (PyData.depthAll ys) ≤ n
          omega
        · show (y.canLay0 && PyData.canLayAll0 ys) = true
          rw [h2, h4]; rfl
theorem toPy_ok : ∀ (n : Nat) (st : Sto) (d : D) (p : PyData), toPy n st d = some p → p.depth ≤ n ∧ p.canLay0 = true := by
  intro n
  induction n with
  | zero => intro st d p e; cases e
  | succ n ih =>
    intro st d p e
    have hL := @depthAll_le n (toPy n st) (fun x p h => ih st x p h)
    unfold toPy at e
    split at e
    · cases e; exact ⟨Nat.zero_le _, rfl⟩
    · cases e; exact ⟨Nat.zero_le _, rfl⟩
    · cases e; exact ⟨Nat.zero_le _, rfl⟩
    · split at e
      · rename_i hs
        cases e; exact ⟨Nat.zero_le _, hs⟩
      · cases e
    · split at e
      · rename_i xs ps hp
        cases e
        obtain ⟨h1, h2⟩ := hL _ ps hp
        exact ⟨Nat.succ_le_succ h1, h2⟩
      · cases e
    · split at e
      · rename_i xs ps hp
        cases e
        obtain ⟨h1, h2⟩ := hL _ ps hp
        exact ⟨Nat.succ_le_succ h1, h2⟩
      · cases e
    · split at e
      · rename_i xs ps hp
        cases e
        obtain ⟨h1, h2⟩ := hL _ ps hp
        exact ⟨Nat.succ_le_succ h1, h2⟩
      · cases e
    · split at e
      · cases e
      · split at e
        · rename_i xs hx ps hp
          cases e
          obtain ⟨h1, h2⟩ := hL _ ps hp
          exact ⟨Nat.succ_le_succ h1, h2⟩
        · cases e
    · cases e
theorem toPy_shaped {st : Sto} {d : D} {p : PyData} (h : toPy 60 st d = some p) : SeqAt.shaped p = true := by
  obtain ⟨h1, h2⟩ := toPy_ok 60 st d p h
  unfold SeqAt.shaped
  rw [h2, decide_eq_true (show p.depth ≤ 64 by omega)]
  rfl
section
variable {mg : Glob} {N : Prot} {c : List Addr} {H : Hp} {st : Sto}
theorem dp_all {n : Nat} (h : ∀ (d : D) (v : V) (p : PyData), Rep mg N c H v d → toPy n st d = some p → Dp mg.K H v p) : ∀ (xs : List D) (vs : List V) (ps : List PyData), RepL mg N c H vs xs → mapO (toPy n st) xs = some ps → DpAll mg.K H vs ps
  | [], _, ps, .nil, e => by cases e; exact .nil
  | x :: r, _, ps, .cons hv t, e => by
    unfold mapO at e
    split at e
    · cases e
    · rename_i y hy
      split at e
      · cases e
      · rename_i ys hys
        cases e
        exact .cons (h _ _ _ hv hy) (dp_all h r _ ys t hys)
theorem dp_of (W : Wd mg N c H st) : ∀ (n : Nat) (d : D) (v : V) (p : PyData), Rep mg N c H v d → toPy n st d = some p → Dp mg.K H v p := by
  intro n
  induction n with
  | zero => intro d v p _ e; cases e
  | succ n ih =>
    intro d v p h e
    unfold toPy at e
    split at e
    · cases e; cases h; exact .non
    · cases e; cases h; exact .bl _
    · cases e; cases h; exact .int _
    · split at e
      · cases e; cases h; exact .str _
      · cases e
    · split at e
      · rename_i ps hp
        cases e
        cases h with
        | tup ha r => exact .tup (SqT.of ha) (dp_all ih _ _ _ r hp)
      · cases e
    · split at e
      · rename_i ps hp
        cases e
        cases h with
        | lst ha _ r => exact .lst (SqL.of ha) (dp_all ih _ _ _ r hp)
      · cases e
    · split at e
      · rename_i ps hp
        cases e
        cases h with
        | fro ha _ r => exact .lst (.inl (.inr ⟨_, ha⟩)) (dp_all ih _ _ _ r hp)
        | kro hq => exact .lst (hq H) (dp_all ih _ _ _ (RepL.ints _) hp)
      · cases e
    · split at e
      · cases e
      · rename_i xs hx
        split at e
        · rename_i ps hp
          cases e
          cases h with
          | cell hc =>
            obtain ⟨vs, ha, r⟩ := W.lstC hc hx
            exact .lst (SqL.of ha) (dp_all ih _ _ _ r hp)
        · cases e
    · cases e
theorem dp_T (W : Wd mg N c H st) {d : D} {v : V} {p : PyData} (h : RepT mg N c H v d) (e : toPy 60 st d = some p) : Dp mg.K H v p := by
  rcases h with h | ⟨a, vs, xs, rfl, rfl, ha, _, r⟩
  · exact dp_of W 60 d v p h e
  · unfold toPy at e
    dsimp only at e
    split at e
    · rename_i ps hp
      cases e
      exact .lst (SqL.of ha) (dp_all (dp_of W 59) _ _ _ r hp)
    · cases e
end
def oEq : D → D → Sto → Option D := fun x y st => match toPy 60 st x, toPy 60 st y with
  | some p, some q => some (.bl (PyData.eqv p q))
  | _, _ => none
def oNe : D → D → Sto → Option D := fun x y st => match toPy 60 st x, toPy 60 st y with
  | some p, some q => some (.bl (!PyData.eqv p q))
  | _, _ => none
theorem ok_eq {mg : Glob} : OpOk mg (RE mg) (rEqD mg.K) oEq := by
  intro N c H st u v x y d Q W p1 p2 e k
  unfold oEq at e
  split at e
  · rename_i p q e1 e2
    cases e
    exact ⟨p, q, dp_T W p1 e1, dp_T W p2 e2, toPy_shaped e1, toPy_shaped e2, k _ N c H Ex.refl W (.bl _)⟩
  · cases e
theorem ok_ne {mg : Glob} : OpOk mg (RE mg) (rNeD mg.K) oNe := by
  intro N c H st u v x y d Q W p1 p2 e k
  unfold oNe at e
  split at e
  · rename_i p q e1 e2
    cases e
    exact ⟨p, q, dp_T W p1 e1, dp_T W p2 e2, toPy_shaped e1, toPy_shaped e2, k _ N c H Ex.refl W (.bl _)⟩
  · cases e
/-- is None, is not None -/
def isNonD : D → Bool
  | .non => true
  | _ => false
theorem isNonD_iff {d : D} : isNonD d = true ↔ d = .non := by
  cases d <;> simp [isNonD]
def oIsN : D → D → Sto → Option D := fun x y _ => match y with
  | .non => some (.bl (isNonD x))
  | _ => none
def oNotN : D → D → Sto → Option D := fun x y _ => match y with
  | .non => some (.bl (!isNonD x))
  | _ => none
theorem isN_eq {mg : Glob} {N : Prot} {c : List Addr} {H : Hp} {u : V} {x : D} (h : RepT mg N c H u x) : decide (u = .non) = isNonD x := by
  cases e : isNonD x with
  | true => exact decide_eq_true (h.isNon.mpr (isNonD_iff.mp e))
  | false =>
    refine decide_eq_false fun z => ?_
    have q := isNonD_iff.mpr (h.isNon.mp z)
    rw [e] at q; cases q
theorem ok_isN {mg : Glob} : OpOk mg (RE mg) (fun x y H Q => y = .non ∧ Q (.bl (decide (x = .non))) H) oIsN := by
  intro N c H st u v x y d Q W p1 p2 e k
  unfold oIsN at e
  split at e
  · cases e
    refine ⟨p2.non, ?_⟩
    rw [isN_eq p1]
    exact k _ N c H Ex.refl W (.bl _)
  · cases e
theorem ok_notN {mg : Glob} : OpOk mg (RE mg) (fun x y H Q => y = .non ∧ Q (.bl (!decide (x = .non))) H) oNotN := by
  intro N c H st u v x y d Q W p1 p2 e k
  unfold oNotN at e
  split at e
  · cases e
    refine ⟨p2.non, ?_⟩
    rw [isN_eq p1]
    exact k _ N c H Ex.refl W (.bl _)
  · cases e
/-- is True, is not False .. of truth values -/
def oIsB (neg : Bool) : D → D → Sto → Option D := fun x y _ => match x, y with
  | .bl a, .bl b => some (.bl (if neg then !decide (a = b) else decide (a = b)))
  | _, _ => none
theorem ok_isntB {mg : Glob} : OpOk mg (RE mg) (fun x y H Q => ∃ a b, x = .bl a ∧ y = .bl b ∧ Q (.bl (!decide (a = b))) H) (oIsB true) := by
  intro N c H st u v x y d Q W p1 p2 e k
  unfold oIsB at e
  split at e
  · cases e
    exact ⟨_, _, p1.bl, p2.bl, k _ N c H Ex.refl W (.bl _)⟩
  · cases e
section
variable {X : Cx} {mg : Glob} {a b : Expr} {pos : Pos} {fa fb : SE}
theorem d_eq (hu : X.A.units + 64 < cLine) (ha : PE X a (tP mg fa)) (hb : PE X b (tP mg fb)) (hK : X.K = mg.K := by rfl) : PE X (.Compare a [.Eq] [b] pos) (tE mg (eOp oEq fa fb)) := d_cmp (hK ▸ op_eqD hu) ok_eq back_E ha hb (nomark _)
theorem d_ne (hu : X.A.units + 64 < cLine) (ha : PE X a (tP mg fa)) (hb : PE X b (tP mg fb)) (hK : X.K = mg.K := by rfl) : PE X (.Compare a [.NotEq] [b] pos) (tE mg (eOp oNe fa fb)) := d_cmp (hK ▸ op_neD hu) ok_ne back_E ha hb (nomark _)
theorem d_isN (ha : PE X a (tP mg fa)) (hb : PE X b (tP mg fb)) : PE X (.Compare a [.Is] [b] pos) (tE mg (eOp oIsN fa fb)) := d_cmp op_isN ok_isN back_E ha hb (nomark _)
theorem d_notN (ha : PE X a (tP mg fa)) (hb : PE X b (tP mg fb)) : PE X (.Compare a [.IsNot] [b] pos) (tE mg (eOp oNotN fa fb)) := d_cmp op_notN ok_notN back_E ha hb (nomark _)
theorem d_isntB (ha : PE X a (tP mg fa)) (hb : PE X b (tP mg fb)) : PE X (.Compare a [.IsNot] [b] pos) (tE mg (eOp (oIsB true) fa fb)) := d_cmp op_isnot_bl ok_isntB back_E ha hb (nomark _)
end

/-! ### tests -/
abbrev SB := Fx Bool
def tT (mg : Glob) (f : SB) : TT := fun σ H Q => ∃ (E : En) (N : Prot) (c : List Addr) (env : Env) (st : Sto) (b : Bool) (st' : Sto), Rel mg E N c env st σ H ∧ f env st = some (b, st') ∧
  ∀ N' c' H', Ex N c H N' c' H' → Wd mg N' c' H' st' → Q b H'
def bOf (f : SE) : SB := fun env st => match f env st with
  | some (.bl b, s1) => some (b, s1)
  | _ => none
def bAnd (f g : SB) : SB := fun env st => match f env st with
  | none => none
  | some (true, s1) => g env s1
  | some (false, s1) => some (false, s1)
def bOr (f g : SB) : SB := fun env st => match f env st with
  | none => none
  | some (true, s1) => some (true, s1)
  | some (false, s1) => g env s1
def bNot (f : SB) : SB := fun env st => match f env st with
  | none => none
  | some (b, s1) => some (!b, s1)
section
variable {X : Cx} {mg : Glob} {e a b : Expr} {rest : List Expr} {pos : Pos} {fe fa fb : SE} {ta tb tc : SB}
theorem r_bOf {σ : L2.St} {H : Hp} {Q : Bool → Hp → Prop} (h : tT mg (bOf fe) σ H Q) : tB (tP mg fe) σ H Q := by
  obtain ⟨E, N, c, env, st, d, st', R, q, k⟩ := h
  unfold bOf at q
  split at q
  · rename_i b s1 q1
    cases q
    exact ⟨E, N, c, env, st, _, _, R, q1, fun v N' c' H' x W r => ⟨_, r.bl, k N' c' H' x W⟩⟩
  · cases q
theorem d_test (h : PE X e (tP mg fe)) (he : ∀ whole, isTrue e X.env whole = (do let v ← whole; standAt e.pos; holding [v] (truthy v)) := by intro _; rfl) : PT X e (tT mg (bOf fe)) := pt_weak (pt_val h he) fun _ _ _ q => r_bOf q
theorem pw_weak {t t' : TT} (h : PW X e t) (w : ∀ σ H Q, t' σ H Q → t σ H Q) : PW X e t' := ⟨fun wh pins s σ H Q I q => h.run wh pins s σ H Q I (w σ H Q q)⟩
theorem r_and {σ : L2.St} {H : Hp} {Q : Bool → Hp → Prop} (h : tT mg (bAnd ta tb) σ H Q) : tAnd (tT mg ta) (tT mg tb) σ H Q := by
  obtain ⟨E, N, c, env, st, d, st', R, q, k⟩ := h
  unfold bAnd at q
  split at q
  · cases q
  · rename_i s1 q1
    refine ⟨E, N, c, env, st, true, s1, R, q1, fun N1 c1 H1 x1 W1 => iteT ?_⟩
    exact ⟨E, N1, c1, env, s1, d, st', R.ex x1 W1, q, fun N2 c2 H2 x2 W2 => k N2 c2 H2 (x1.trans x2 R.wd) W2⟩
  · rename_i s1 q1
    cases q
    exact ⟨E, N, c, env, st, false, _, R, q1, fun N1 c1 H1 x1 W1 => iteF (k N1 c1 H1 x1 W1)⟩
theorem r_or {σ : L2.St} {H : Hp} {Q : Bool → Hp → Prop} (h : tT mg (bOr ta tb) σ H Q) : tOr (tT mg ta) (tT mg tb) σ H Q := by
  obtain ⟨E, N, c, env, st, d, st', R, q, k⟩ := h
  unfold bOr at q
  split at q
  · cases q
  · rename_i s1 q1
    cases q
    exact ⟨E, N, c, env, st, true, _, R, q1, fun N1 c1 H1 x1 W1 => iteT (k N1 c1 H1 x1 W1)⟩
  · rename_i s1 q1
    refine ⟨E, N, c, env, st, false, s1, R, q1, fun N1 c1 H1 x1 W1 => iteF ?_⟩
    exact ⟨E, N1, c1, env, s1, d, st', R.ex x1 W1, q, fun N2 c2 H2 x2 W2 => k N2 c2 H2 (x1.trans x2 R.wd) W2⟩
theorem r_not {σ : L2.St} {H : Hp} {Q : Bool → Hp → Prop} (h : tT mg (bNot ta) σ H Q) : tNot (tT mg ta) σ H Q := by
  obtain ⟨E, N, c, env, st, d, st', R, q, k⟩ := h
  unfold bNot at q
  split at q
  · cases q
  · rename_i b s1 q1
    cases q
    exact ⟨E, N, c, env, st, b, _, R, q1, k⟩
theorem w_and1 (ha : PT X a (tT mg ta)) : PW X (.BoolOp .And [a] pos) (tT mg ta) := pw_and1 ha
theorem w_or1 (ha : PT X a (tT mg ta)) : PW X (.BoolOp .Or [a] pos) (tT mg ta) := pw_or1 ha
theorem w_and (ha : PT X a (tT mg ta)) (hb : PW X (.BoolOp .And (b :: rest) pos) (tT mg tb)) : PW X (.BoolOp .And (a :: b :: rest) pos) (tT mg (bAnd ta tb)) := pw_weak (pw_and ha hb) fun _ _ _ q => r_and q
theorem w_or (ha : PT X a (tT mg ta)) (hb : PW X (.BoolOp .Or (b :: rest) pos) (tT mg tb)) : PW X (.BoolOp .Or (a :: b :: rest) pos) (tT mg (bOr ta tb)) := pw_weak (pw_or ha hb) fun _ _ _ q => r_or q
theorem w_pt (h : PW X e (tT mg ta)) : PT X e (tT mg ta) := h.pt
theorem d_not (ha : PT X a (tT mg ta)) : PT X (.UnaryOp .Not a pos) (tT mg (bNot ta)) := pt_weak (pt_not ha) fun _ _ _ q => r_not q
/-- a comparison as a test -/
theorem test_cmp {M : Model} {A : Around} {l r : Expr} {op : CmpOp} {pos : Pos} {env : PySem.Env} {whole : Sem Value} {Q : Bool → Shared → Prop} {E : Value → Shared → Prop} {s : Shared}
    (h : wpAny M A (eval (.Compare l [op] [r] pos) env) (fun c s₃ => wpAny M A (truthy c) Q E s₃) E s) : wpAny M A (isTrue (.Compare l [op] [r] pos) env whole) Q E s := fun Γ p hΓ => by
  have h := h Γ p hΓ
  simp only [eval_Compare1, isTrue_Compare1, Sem.wp_bind', Sem.wp_holding, Sem.wp_cmd_standAt, Sem.wp_operate] at h ⊢
  exact Sem.wp_mono M Γ _ (fun a p₁ s₁ h₁ => Sem.wp_mono M Γ _ (fun b _ s₂ h₂ => Sem.wp_mono M Γ _ (fun c p₃ s₃ h₃ => h₃ Γ p₃ hΓ)
    (fun _ _ _ h' => h') _ _ h₂) (fun _ _ _ h' => h') _ _ h₁) (fun _ _ _ h' => h') _ _ h
theorem d_testC {o : CmpOp} (h : PE X (.Compare a [o] [b] pos) (tP mg fe)) : PT X (.Compare a [o] [b] pos) (tT mg (bOf fe)) := by
  refine ⟨fun pins s σ H Q I q => ?_⟩
  refine test_cmp (thn (h.run pins s σ H _ I (r_bOf q)) fun c s3 ⟨z, H3, I3, r3, e3⟩ => ?_)
  obtain ⟨k, e, q3⟩ := e3
  subst e
  cases r3
  exact wpAny_truthy_bool ⟨H3, I3, q3⟩
end

/-! ### and, or, not as values of truth values; if; minus -/
def eAnd (f g : SE) : SE := fun env st => match f env st with
  | some (.bl true, s1) => g env s1
  | some (.bl false, s1) => some (.bl false, s1)
  | _ => none
def eOr (f g : SE) : SE := fun env st => match f env st with
  | some (.bl true, s1) => some (.bl true, s1)
  | some (.bl false, s1) => g env s1
  | _ => none
def eNot (f : SE) : SE := fun env st => match f env st with
  | some (.bl b, s1) => some (.bl (!b), s1)
  | _ => none
def eIf {α : Type} (t : SB) (f g : Fx α) : Fx α := fun env st => match t env st with
  | some (true, s1) => f env s1
  | some (false, s1) => g env s1
  | none => none
def eNeg (f : SE) : SE := fun env st => match f env st with
  | some (.int i, s1) => some (.int (-i), s1)
  | _ => none
section
variable {X : Cx} {mg : Glob} {e a b : Expr} {rest : List Expr} {pos : Pos} {fe fa fb : SE} {ta tb tc : SB}
theorem r_andV {σ : L2.St} {H : Hp} {Q : VK} (h : tE mg (eAnd fa fb) σ H Q) : tAndV (tP mg fa) (tE mg fb) σ H Q := by
  obtain ⟨E, N, c, env, st, d, st', R, q, k⟩ := h
  unfold eAnd at q
  split at q
  · rename_i s1 q1
    refine ⟨E, N, c, env, st, _, s1, R, q1, fun v N1 c1 H1 x1 W1 r1 => ⟨true, r1.bl, iteT ?_⟩⟩
    exact ⟨E, N1, c1, env, s1, d, st', R.ex x1 W1, q, fun v N2 c2 H2 x2 W2 r2 => k v N2 c2 H2 (x1.trans x2 R.wd) W2 r2⟩
  · rename_i s1 q1
    cases q
    exact ⟨E, N, c, env, st, _, _, R, q1, fun v N1 c1 H1 x1 W1 r1 => ⟨false, r1.bl, iteF (k _ N1 c1 H1 x1 W1 (.bl false))⟩⟩
  · cases q
theorem r_orV {σ : L2.St} {H : Hp} {Q : VK} (h : tE mg (eOr fa fb) σ H Q) : tOrV (tP mg fa) (tE mg fb) σ H Q := by
  obtain ⟨E, N, c, env, st, d, st', R, q, k⟩ := h
  unfold eOr at q
  split at q
  · rename_i s1 q1
    cases q
    exact ⟨E, N, c, env, st, _, _, R, q1, fun v N1 c1 H1 x1 W1 r1 => ⟨true, r1.bl, iteT (k _ N1 c1 H1 x1 W1 (.bl true))⟩⟩
  · rename_i s1 q1
    refine ⟨E, N, c, env, st, _, s1, R, q1, fun v N1 c1 H1 x1 W1 r1 => ⟨false, r1.bl, iteF ?_⟩⟩
    exact ⟨E, N1, c1, env, s1, d, st', R.ex x1 W1, q, fun v N2 c2 H2 x2 W2 r2 => k v N2 c2 H2 (x1.trans x2 R.wd) W2 r2⟩
  · cases q
theorem r_notV {σ : L2.St} {H : Hp} {Q : VK} (h : tE mg (eNot fa) σ H Q) : tNotV (tP mg fa) σ H Q := by
  obtain ⟨E, N, c, env, st, d, st', R, q, k⟩ := h
  unfold eNot at q
  split at q
  · rename_i b s1 q1
    cases q
    exact ⟨E, N, c, env, st, _, _, R, q1, fun v N1 c1 H1 x1 W1 r1 => ⟨b, r1.bl, k _ N1 c1 H1 x1 W1 (.bl _)⟩⟩
  · cases q
theorem r_if {α : Type} {Rt : Told α} (hb : Back mg Rt) {f g : Fx α} {σ : L2.St} {H : Hp} {Q : VK} (h : tX mg Rt (eIf ta f g) σ H Q) : tIf (tT mg ta) (tX mg Rt f) (tX mg Rt g) σ H Q := by
  obtain ⟨E, N, c, env, st, d, st', R, q, k⟩ := h
  unfold eIf at q
  split at q
  · rename_i s1 q1
    refine ⟨E, N, c, env, st, _, s1, R, q1, fun N1 c1 H1 x1 W1 => iteT ?_⟩
    exact ⟨E, N1, c1, env, s1, d, st', R.ex x1 W1, q, fun v N2 c2 H2 x2 W2 r2 => k v N2 c2 H2 (x1.trans x2 R.wd) W2 (hb R.wd x1 W1 r2)⟩
  · rename_i s1 q1
    refine ⟨E, N, c, env, st, _, s1, R, q1, fun N1 c1 H1 x1 W1 => iteF ?_⟩
    exact ⟨E, N1, c1, env, s1, d, st', R.ex x1 W1, q, fun v N2 c2 H2 x2 W2 r2 => k v N2 c2 H2 (x1.trans x2 R.wd) W2 (hb R.wd x1 W1 r2)⟩
  · cases q
theorem r_neg {σ : L2.St} {H : Hp} {Q : VK} (h : tE mg (eNeg fa) σ H Q) : tUn (rU fun i => .int (-i)) (tP mg fa) σ H Q := by
  obtain ⟨E, N, c, env, st, d, st', R, q, k⟩ := h
  unfold eNeg at q
  split at q
  · rename_i i s1 q1
    cases q
    exact ⟨E, N, c, env, st, _, _, R, q1, fun v N1 c1 H1 x1 W1 r1 => ⟨i, r1.int, k _ N1 c1 H1 x1 W1 (.int _)⟩⟩
  · cases q
theorem v_one {op : BoolOp} (ha : PE X a (tE mg fa)) : PE X (.BoolOp op [a] pos) (tE mg fa) := pe_one ha
theorem v_and (ha : PE X a (tP mg fa)) (hb : PE X (.BoolOp .And (b :: rest) pos) (tE mg fb)) : PE X (.BoolOp .And (a :: b :: rest) pos) (tE mg (eAnd fa fb)) := pe_weak (pe_and ha hb) fun _ _ _ q => r_andV q
theorem v_or (ha : PE X a (tP mg fa)) (hb : PE X (.BoolOp .Or (b :: rest) pos) (tE mg fb)) : PE X (.BoolOp .Or (a :: b :: rest) pos) (tE mg (eOr fa fb)) := pe_weak (pe_or ha hb) fun _ _ _ q => r_orV q
theorem v_not (ha : PE X a (tP mg fa)) : PE X (.UnaryOp .Not a pos) (tE mg (eNot fa)) := pe_weak (pe_not ha) fun _ _ _ q => r_notV q
theorem d_if {c : Expr} (hc : PT X c (tT mg tc)) (ha : PE X a (tE mg fa)) (hb : PE X b (tE mg fb)) : PE X (.IfExp c a b pos) (tE mg (eIf tc fa fb)) := pe_weak (pe_ifExp hc ha hb) fun _ _ _ q => r_if (Rt := RE mg) back_E q
theorem d_neg (ha : PE X a (tP mg fa)) : PE X (.UnaryOp .USub a pos) (tE mg (eNeg fa)) := pe_weak (pe_un un_neg ha) fun _ _ _ q => r_neg q
end
end LW

/-! LwD: argument lists, displays, subscripts, slices, built-in calls, attributes. -/
namespace LW
open PySem L2 PyProof.Rows

/-! ### argument lists -/
inductive RepTL (mg : Glob) (N : Prot) (c : List Addr) (H : Hp) : List V → List D → Prop where
  | nil : RepTL mg N c H [] []
  | cons {v : V} {d : D} {vs : List V} {ds : List D} (h : RepT mg N c H v d) (t : RepTL mg N c H vs ds) : RepTL mg N c H (v :: vs) (d :: ds)
abbrev SA := Fx (List D)
abbrev ToldA := Prot → List Addr → Hp → List V → List D → Prop
def tAX (mg : Glob) (R : ToldA) (f : SA) : TA := fun σ H Q => ∃ (E : En) (N : Prot) (c : List Addr) (env : Env) (st : Sto) (d : List D) (st' : Sto), Rel mg E N c env st σ H ∧ f env st = some (d, st') ∧
  ∀ vs N' c' H', Ex N c H N' c' H' → Wd mg N' c' H' st' → R N' c' H' vs d → Q vs H'
abbrev tA (mg : Glob) (f : SA) : TA := tAX mg (RepL mg) f
abbrev tAP (mg : Glob) (f : SA) : TA := tAX mg (RepTL mg) f
def aNil : SA := fun _ st => some ([], st)
def aCons (f : SE) (g : SA) : SA := fun env st => match f env st with
  | none => none
  | some (d, s1) => match g env s1 with
    | none => none
    | some (ds, s2) => some (d :: ds, s2)
section
variable {mg : Glob} {X : Cx} {e : Expr} {es : List Expr} {f : SE} {g : SA}
theorem RepTL.ex {N N' : Prot} {c c' : List Addr} {H H' : Hp} {st : Sto} (x : Ex N c H N' c' H') (W : Wd mg N c H st) : ∀ {vs : List V} {ds : List D}, RepTL mg N c H vs ds → RepTL mg N' c' H' vs ds
  | _, _, .nil => .nil
  | _, _, .cons h t => .cons (RepT.ex x W h) (RepTL.ex x W t)
theorem RepL.toT {N : Prot} {c : List Addr} {H : Hp} : ∀ {vs : List V} {ds : List D}, RepL mg N c H vs ds → RepTL mg N c H vs ds
  | _, _, .nil => .nil
  | _, _, .cons h t => .cons (.inl h) (RepL.toT t)
theorem a_nil : PA X [] (tA mg aNil) := pa_weak pa_nil fun σ H Q ⟨E, N, c, env, st, d, st', R, q, k⟩ => by
  cases q
  exact k [] N c H Ex.refl R.wd .nil
theorem p_nil : PA X [] (tAP mg aNil) := pa_weak pa_nil fun σ H Q ⟨E, N, c, env, st, d, st', R, q, k⟩ => by
  cases q
  exact k [] N c H Ex.refl R.wd .nil
theorem a_cons (ha : PE X e (tE mg f)) (hr : PA X es (tA mg g)) (hs : starEach (e :: es) X.env = (false, eval e X.env) :: starEach es X.env := by rfl) : PA X (e :: es) (tA mg (aCons f g)) := pa_weak (pa_cons ha hr hs) fun σ H Q ⟨E, N, c, env, st, d, st', R, q, k⟩ => by
  unfold aCons at q
  split at q
  · cases q
  · rename_i d1 s1 q1
    split at q
    · cases q
    · rename_i ds s2 q2
      cases q
      refine ⟨E, N, c, env, st, d1, s1, R, q1, fun v N1 c1 H1 x1 W1 r1 => ?_⟩
      exact ⟨E, N1, c1, env, s1, ds, _, R.ex x1 W1, q2, fun vs N2 c2 H2 x2 W2 r2 => k _ N2 c2 H2 (x1.trans x2 R.wd) W2 (.cons (Rep.tr (x2.tr W1) r1) r2)⟩
theorem p_cons (ha : PE X e (tP mg f)) (hr : PA X es (tAP mg g)) (hs : starEach (e :: es) X.env = (false, eval e X.env) :: starEach es X.env := by rfl) : PA X (e :: es) (tAP mg (aCons f g)) := pa_weak (pa_cons ha hr hs) fun σ H Q ⟨E, N, c, env, st, d, st', R, q, k⟩ => by
  unfold aCons at q
  split at q
  · cases q
  · rename_i d1 s1 q1
    split at q
    · cases q
    · rename_i ds s2 q2
      cases q
      refine ⟨E, N, c, env, st, d1, s1, R, q1, fun v N1 c1 H1 x1 W1 r1 => ?_⟩
      exact ⟨E, N1, c1, env, s1, ds, _, R.ex x1 W1, q2, fun vs N2 c2 H2 x2 W2 r2 => k _ N2 c2 H2 (x1.trans x2 R.wd) W2 (.cons (RepT.ex x2 W1 r1) r2)⟩
end

/-! ### displays -/
def eTup (f : SA) : SE := fun env st => match f env st with
  | none => none
  | some (ds, s1) => if ds.length ≤ 1000000 then some (.tup ds, s1) else none
def lDisp (f : SA) : Fx (List D) := fun env st => match f env st with
  | none => none
  | some (ds, s1) => if ds.length ≤ 1000000 then some (ds, s1) else none
section
variable {mg : Glob} {X : Cx} {es : List Expr} {pos : Pos} {g : SA}
theorem d_tup {x1} (h : PA X es (tA mg g)) : PE X (.Tuple es x1 pos) (tE mg (eTup g)) := pe_weak (pe_tup h) fun σ H Q ⟨E, N, c, env, st, d, st', R, q, k⟩ => by
  unfold eTup at q
  split at q
  · cases q
  · rename_i ds s1 q1
    split at q
    · rename_i hl
      cases q
      refine ⟨E, N, c, env, st, ds, _, R, q1, fun vs N1 c1 H1 x1 W1 r1 => ⟨sz6 (by rw [r1.length]; exact hl), fun p hp => ?_⟩⟩
      exact k _ _ _ _ (x1.trans (Ex.laid W1 hp) R.wd) (W1.laid hp) (Rep.laidT W1 hp r1)
    · cases q
theorem d_lst (h : PA X es (tA mg g)) : PE X (.List es pos) (tL mg (lDisp g)) := pe_weak (pe_lst h) fun σ H Q ⟨E, N, c, env, st, d, st', R, q, k⟩ => by
  unfold lDisp at q
  split at q
  · cases q
  · rename_i ds s1 q1
    split at q
    · rename_i hl
      cases q
      refine ⟨E, N, c, env, st, _, _, R, q1, fun vs N1 c1 H1 x1 W1 r1 => ⟨sz6 (by rw [r1.length]; exact hl), fun p hp => ?_⟩⟩
      exact k _ _ _ _ (x1.trans (Ex.laidN W1 hp) R.wd) (W1.laidN hp) (back_N R.wd x1 W1 (RN.laid W1 hp r1))
    · cases q
end

/-! ### subscripts -/
def oIx : D → D → Sto → Option D := fun x y st => match y with
  | .int i => match x with
    | .tup xs => atI xs i
    | .str z => if z.length ≤ 1000000 then (match atI z.cps.toList i with | some ch => some (.str ⟨#[ch]⟩) | none => none) else none
    | x => match lstR st x with
      | some xs => atI xs i
      | none => none
  | _ => none
theorem RepL.atI {mg : Glob} {N : Prot} {c : List Addr} {H : Hp} {vs : List V} {ds : List D} {i : Int} {d : D} (r : RepL mg N c H vs ds) (h : L2.atI ds i = some d) : ∃ v, L2.atI vs i = some v ∧ Rep mg N c H v d := by
  unfold L2.atI at h ⊢
  rw [r.length]
  cases e : ixN ds.length i with
  | none => rw [e] at h; cases h
  | some j =>
    rw [e] at h
    exact r.get h
theorem ok_ix {mg : Glob} : OpOk mg (RE mg) (rIx mg.K) oIx := by
  intro N c H st u v x y d Q W p1 p2 e k
  unfold oIx at e
  split at e
  · rename_i i
    split at e
    · rename_i xs
      obtain ⟨a, vs, rfl, ha, r⟩ := p1.tup
      obtain ⟨w, hw, rw_⟩ := r.atI e
      exact .inr (.inl ⟨a, vs, i, w, rfl, p2.int, SqT.of ha, hw, k w N c H Ex.refl W rw_⟩)
    · rename_i z
      split at e
      · rename_i hl
        split at e
        · rename_i ch hch
          cases e
          exact .inr (.inr ⟨z, i, ch, p1.str, p2.int, sz6 hl, hch, k _ N c H Ex.refl W (.str _)⟩)
        · cases e
      · cases e
    · split at e
      · rename_i xs hx
        obtain ⟨a, vs, rfl, ha, r⟩ := RepT.read W p1 hx
        obtain ⟨w, hw, rw_⟩ := r.atI e
        exact .inl ⟨a, vs, i, w, rfl, p2.int, ha, hw, k w N c H Ex.refl W rw_⟩
      · cases e
  · cases e
section
variable {mg : Glob} {X : Cx} {a b : Expr} {pos p2 : Pos} {fa fb : SE}
theorem d_ix (ha : PE X a (tP mg fa)) (hb : PE X b (tP mg fb)) (hs : PlainIx b := by exact fun _ _ => rfl) (hK : X.K = mg.K := by rfl) : PE X (.Subscript a b pos) (tE mg (eOp oIx fa fb)) := pe_weak (pe_ix (hK ▸ ix_seq) ha hb hs) fun _ _ _ h => r_op ok_ix back_E h
end

/-! ### slices -/
def cutD {α : Type} (xs : List α) (lo hi : Option Int) : List α := (xs.drop (HT.sIx xs.length 0 lo)).take (HT.sIx xs.length xs.length hi - HT.sIx xs.length 0 lo)
/-- a part of a slice -/
abbrev SO := Fx (Option Int)
def tOX (mg : Glob) (f : SO) : TO := fun σ H Q => ∃ (E : En) (N : Prot) (c : List Addr) (env : Env) (st : Sto) (d : Option Int) (st' : Sto), Rel mg E N c env st σ H ∧ f env st = some (d, st') ∧
  ∀ N' c' H', Ex N c H N' c' H' → Wd mg N' c' H' st' → Q d H'
def oNone : SO := fun _ st => some (none, st)
def oSome (f : SE) : SO := fun env st => match f env st with
  | some (.int i, s1) => some (some i, s1)
  | _ => none
def eSl {α : Type} (op : D → Option Int → Option Int → Sto → Option α) (f : SE) (lo hi : SO) : Fx α := fun env st => match f env st with
  | none => none
  | some (x, s1) => match lo env s1 with
    | none => none
    | some (l, s2) => match hi env s2 with
      | none => none
      | some (h, s3) => match op x l h s3 with
        | none => none
        | some d => some (d, s3)
def slL : D → Option Int → Option Int → Sto → Option (List D) := fun x lo hi st => match lstR st x with
  | some xs => some (cutD xs lo hi)
  | none => none
theorem po_weak {X : Cx} {e : Option Expr} {t t' : TO} (h : PO X e t) (w : ∀ σ H Q, t' σ H Q → t σ H Q) : PO X e t' := ⟨fun pins s σ H Q I q => h.run pins s σ H Q I (w σ H Q q)⟩
section
variable {mg : Glob} {X : Cx} {e : Expr} {lo hi : Option Expr} {pos p2 : Pos} {f : SE} {gl gh : SO}
theorem o_none : PO X none (tOX mg oNone) := po_weak po_none fun σ H Q ⟨E, N, c, env, st, d, st', R, q, k⟩ => by
  cases q
  exact k N c H Ex.refl R.wd
theorem o_some (h : PE X e (tP mg f)) : PO X (some e) (tOX mg (oSome f)) := po_weak (po_some h) fun σ H Q ⟨E, N, c, env, st, d, st', R, q, k⟩ => by
  unfold oSome at q
  split at q
  · rename_i i s1 q1
    cases q
    exact ⟨E, N, c, env, st, _, _, R, q1, fun v N1 c1 H1 x1 W1 r1 => ⟨i, r1.int, k N1 c1 H1 x1 W1⟩⟩
  · cases q
def SlOk {α : Type} (mg : Glob) (R : Told α) (r : V → Option Int → Option Int → Hp → VK → Prop) (op : D → Option Int → Option Int → Sto → Option α) : Prop := ∀ (N : Prot) (c : List Addr) (H : Hp) (st : Sto) (u : V) (lo hi : Option Int) (x : D) (d : α) (Q : VK), Wd mg N c H st → RepT mg N c H u x → op x lo hi st = some d →
  (∀ w N' c' H', Ex N c H N' c' H' → Wd mg N' c' H' st → R N c H N' c' H' w d → Q w H') → r u lo hi H Q
theorem r_sl {α : Type} {Rt : Told α} {r : V → Option Int → Option Int → Hp → VK → Prop} {op : D → Option Int → Option Int → Sto → Option α} (hk : SlOk mg Rt r op) (hb : Back mg Rt) {σ : L2.St} {H : Hp} {Q : VK} (h : tX mg Rt (eSl op f gl gh) σ H Q) : tSl r (tP mg f) (tOX mg gl) (tOX mg gh) σ H Q := by
  obtain ⟨E, N, c, env, st, d, st', R0, q, k⟩ := h
  unfold eSl at q
  split at q
  · cases q
  · rename_i x s1 q1
    split at q
    · cases q
    · rename_i l s2 q2
      split at q
      · cases q
      · rename_i hh s3 q3
        split at q
        · cases q
        · rename_i d0 q4
          cases q
          refine ⟨E, N, c, env, st, x, s1, R0, q1, fun v1 N1 c1 H1 x1 W1 p1 => ?_⟩
          refine ⟨E, N1, c1, env, s1, l, s2, R0.ex x1 W1, q2, fun N2 c2 H2 x2 W2 => ?_⟩
          have x12 := x1.trans x2 R0.wd
          refine ⟨E, N2, c2, env, s2, hh, _, R0.ex x12 W2, q3, fun N3 c3 H3 x3 W3 => ?_⟩
          have x13 := x12.trans x3 R0.wd
          refine hk N3 c3 H3 _ v1 l hh x _ Q W3 (RepT.ex x3 W2 (RepT.ex x2 W1 p1)) q4 fun w N' c' H' x4 W4 p4 => ?_
          exact k w N' c' H' (x13.trans x4 R0.wd) W4 (hb R0.wd x13 W3 p4)
theorem RepL.cut {N : Prot} {c : List Addr} {H : Hp} {vs : List V} {ds : List D} (r : RepL mg N c H vs ds) (lo hi : Option Int) : RepL mg N c H (cutV vs lo hi) (cutD ds lo hi) := by
  unfold cutV cutD
  rw [r.length]
  exact (r.drop _).take _
theorem ok_slL : SlOk mg (RN mg) (rSlL mg.K) slL := by
  intro N c H st u lo hi x d Q W p1 e k
  unfold slL at e
  split at e
  · rename_i xs hx
    cases e
    obtain ⟨a, vs, rfl, ha, r⟩ := RepT.read W p1 hx
    exact ⟨a, vs, rfl, ha, fun p hp => k _ _ _ _ (Ex.laidN W hp) (W.laidN hp) (RN.laid W hp (r.cut lo hi))⟩
  · cases e
theorem d_slL (he : PE X e (tP mg f)) (hl : PO X lo (tOX mg gl)) (hu : PO X hi (tOX mg gh)) (hK : X.K = mg.K := by rfl) : PE X (.Subscript e (.Slice lo hi none p2) pos) (tL mg (eSl slL f gl gh)) := pe_weak (pe_slice (hK ▸ sl_list) he hl hu) fun _ _ _ h => r_sl ok_slL back_N h
end
end LW

/-! LwE: built-in calls; defs by their promise, calls of defs, methods, classes, properties. -/
namespace LW
open PySem L2 PyProof.Rows

/-! ### built-in calls -/
def eBi {α : Type} (g : List D → Sto → Option α) (f : SA) : Fx α := fun env st => match f env st with
  | none => none
  | some (ds, s1) => match g ds s1 with
    | none => none
    | some d => some (d, s1)
def BiOk {α : Type} (mg : Glob) (R : Told α) (r : List V → Hp → VK → Prop) (g : List D → Sto → Option α) : Prop := ∀ (N : Prot) (c : List Addr) (H : Hp) (st : Sto) (us : List V) (ds : List D) (d : α) (Q : VK), Wd mg N c H st → RepTL mg N c H us ds → g ds st = some d →
  (∀ w N' c' H', Ex N c H N' c' H' → Wd mg N' c' H' st → R N c H N' c' H' w d → Q w H') → r us H Q
def orB {α : Type} (f g : List D → Sto → Option α) : List D → Sto → Option α := fun ds st => match f ds st with
  | some d => some d
  | none => g ds st
section
variable {α : Type} {mg : Glob} {R : Told α} {r r' : List V → Hp → VK → Prop} {g g' : List D → Sto → Option α} {f : SA} {X : Cx} {x : Str} {e : Expr} {es : List Expr} {p pos : Pos}
theorem BiOk.or (h : BiOk mg R r g) (h' : BiOk mg R r' g') : BiOk mg R (fun xs H Q => r xs H Q ∨ r' xs H Q) (orB g g') := by
  intro N c H st us ds d Q W p q k
  unfold orB at q
  split at q
  · rename_i d0 e0
    cases q
    exact .inl (h N c H st us ds _ Q W p e0 k)
  · exact .inr (h' N c H st us ds d Q W p q k)
theorem r_bi (hk : BiOk mg R r g) (hb : Back mg R) {σ : L2.St} {H : Hp} {Q : VK} (h : tX mg R (eBi g f) σ H Q) : tCB r (tAP mg f) σ H Q := by
  obtain ⟨E, N, c, env, st, d, st', R0, q, k⟩ := h
  unfold eBi at q
  split at q
  · cases q
  · rename_i ds s1 q1
    split at q
    · cases q
    · rename_i d0 q2
      cases q
      refine ⟨E, N, c, env, st, ds, _, R0, q1, fun vs N1 c1 H1 x1 W1 p1 => ?_⟩
      refine hk N1 c1 H1 _ vs ds _ Q W1 p1 q2 fun w N' c' H' x2 W2 p2 => ?_
      exact k w N' c' H' (x1.trans x2 R0.wd) W2 (hb R0.wd x1 W1 p2)
/-- f(e, ..), f a built-in function; T(e, ..), T a built-in class -/
theorem d_bi {id : String} (hc : CallR X (.builtin id) r) (hk : BiOk mg R r g) (hb : Back mg R) (hg : Gl X x) (hm : X.mg x = none) (hv : bootBuiltins x = some (.builtin id)) (ha : PA X (e :: es) (tAP mg f)) (hn : x ≠ "__name__" := by decide) (hdb : (x == ("__debug__" : Str)) = false := by decide)
    (he : starEach (e :: es) X.env = (false, eval e X.env) :: starEach es X.env := by rfl) (hpl : (backTo pos (starEach es X.env)).any (·.1) = false := by rfl) : PE X (.Call (.Name x p) (e :: es) [] pos) (tX mg R (eBi g f)) :=
  pe_weak (pe_callB hc hg hm hv ha hn hdb he hpl) fun _ _ _ h => r_bi hk hb h
theorem d_bt {T : String} (hc : CallR X (.type T) r) (hk : BiOk mg R r g) (hb : Back mg R) (hg : Gl X x) (hm : X.mg x = none) (hv : bootBuiltins x = some (.type T)) (ha : PA X (e :: es) (tAP mg f)) (hn : x ≠ "__name__" := by decide) (hdb : (x == ("__debug__" : Str)) = false := by decide)
    (he : starEach (e :: es) X.env = (false, eval e X.env) :: starEach es X.env := by rfl) (hpl : (backTo pos (starEach es X.env)).any (·.1) = false := by rfl) : PE X (.Call (.Name x p) (e :: es) [] pos) (tX mg R (eBi g f)) :=
  pe_weak (pe_callTy hc hg hm hv ha hn hdb he hpl) fun _ _ _ h => r_bi hk hb h
end
section
variable {mg : Glob} {N : Prot} {c : List Addr} {H : Hp} {us : List V}
theorem tl1 {d : D} (h : RepTL mg N c H us [d]) : ∃ u, us = [u] ∧ RepT mg N c H u d := by
  cases h with
  | cons h t => cases t; exact ⟨_, rfl, h⟩
theorem tl2 {d d' : D} (h : RepTL mg N c H us [d, d']) : ∃ u u', us = [u, u'] ∧ RepT mg N c H u d ∧ RepT mg N c H u' d' := by
  cases h with
  | cons h t => obtain ⟨u', rfl, h'⟩ := tl1 t; exact ⟨_, _, rfl, h, h'⟩
end
/-- len of a list, a tuple, a text -/
def gLen : List D → Sto → Option D := fun ds st => match ds with
  | [.tup xs] => some (.int xs.length)
  | [.str z] => if z.length ≤ 1000000 then some (.int z.length) else none
  | [x] => match lstR st x with
    | some xs => some (.int xs.length)
    | none => none
  | _ => none
theorem ok_len {mg : Glob} : BiOk mg (RE mg) (fun xs H Q => (∃ p ys, xs = [.ref p] ∧ (SqL mg.K H p ys ∨ SqT mg.K H p ys) ∧ Q (.int ys.length) H) ∨ ∃ z, xs = [.str z] ∧ z.length ≤ sizeLine ∧ Q (.int z.length) H) gLen := by
  intro N c H st us ds d Q W p q k
  unfold gLen at q
  split at q
  · rename_i xs
    cases q
    obtain ⟨u, rfl, h⟩ := tl1 p
    obtain ⟨a, vs, rfl, ha, r⟩ := h.tup
    refine .inl ⟨a, vs, rfl, .inr (SqT.of ha), ?_⟩
    rw [r.length]
    exact k _ N c H Ex.refl W (.int _)
  · rename_i z
    split at q
    · rename_i hl
      cases q
      obtain ⟨u, rfl, h⟩ := tl1 p
      exact .inr ⟨z, by rw [h.str], sz6 hl, k _ N c H Ex.refl W (.int _)⟩
    · cases q
  · split at q
    · rename_i xs hx
      cases q
      obtain ⟨u, rfl, h⟩ := tl1 p
      obtain ⟨a, vs, rfl, ha, r⟩ := RepT.read W h hx
      refine .inl ⟨a, vs, rfl, .inl ha, ?_⟩
      rw [r.length]
      exact k _ N c H Ex.refl W (.int _)
    · cases q
  · cases q
/-- a list of whole numbers -/
def intsOf : List D → Option (List Int)
  | [] => some []
  | .int i :: r => match intsOf r with
    | some ns => some (i :: ns)
    | none => none
  | _ :: _ => none
theorem intsOf_eq : ∀ {xs : List D} {ns : List Int}, intsOf xs = some ns → xs = ns.map D.int
  | [], _, e => by cases e; rfl
  | .int i :: r, ns, e => by
    unfold intsOf at e
    split at e
    · rename_i ms hm
      cases e
      rw [intsOf_eq hm]; rfl
    · cases e
  | .non :: _, _, e => by cases e
  | .bl _ :: _, _, e => by cases e
  | .str _ :: _, _, e => by cases e
  | .ty _ :: _, _, e => by cases e
  | .tup _ :: _, _, e => by cases e
  | .lst _ :: _, _, e => by cases e
  | .fro _ :: _, _, e => by cases e
  | .cell _ :: _, _, e => by cases e
  | .obj _ _ _ :: _, _, e => by cases e
  | .cls _ :: _, _, e => by cases e
  | .dic _ _ :: _, _, e => by cases e
  | .dit _ _ :: _, _, e => by cases e
theorem intsOf_map : ∀ (ns : List Int), intsOf (ns.map D.int) = some ns
  | [] => rfl
  | n :: r => by
    show (match intsOf (r.map D.int) with | some ns => some (n :: ns) | none => none) = _
    rw [intsOf_map r]
def lstI (st : Sto) (x : D) : Option (List Int) := match lstR st x with
  | some xs => intsOf xs
  | none => none
theorem RepT.ints {mg : Glob} {N : Prot} {c : List Addr} {H : Hp} {st : Sto} {u : V} {x : D} {ns : List Int} (W : Wd mg N c H st) (h : RepT mg N c H u x) (e : lstI st x = some ns) : ∃ a, u = .ref a ∧ SqL mg.K H a (ns.map V.int) := by
  unfold lstI at e
  split at e
  · rename_i xs hx
    obtain ⟨a, vs, rfl, ha, r⟩ := RepT.read W h hx
    rw [intsOf_eq e] at r
    rw [r.of_ints] at ha
    exact ⟨a, rfl, ha⟩
  · cases e
def gSum : List D → Sto → Option D := fun ds st => match ds with
  | [x] => match lstI st x with
    | some ns => some (.int ns.sum)
    | none => none
  | _ => none
theorem ok_sum {mg : Glob} : BiOk mg (RE mg) (rSum mg.K) gSum := by
  intro N c H st us ds d Q W p q k
  unfold gSum at q
  split at q
  · split at q
    · rename_i ns hn
      cases q
      obtain ⟨u, rfl, h⟩ := tl1 p
      obtain ⟨a, rfl, ha⟩ := h.ints W hn
      exact ⟨a, ns, rfl, ha, k _ N c H Ex.refl W (.int _)⟩
    · cases q
  · cases q
def maxL : List Int → Option Int
  | [] => none
  | x :: r => match maxL r with
    | none => some x
    | some m => some (if m < x then x else m)
def minL : List Int → Option Int
  | [] => none
  | x :: r => match minL r with
    | none => some x
    | some m => some (if x < m then x else m)
theorem maxL_ok : ∀ {l : List Int} {m : Int}, maxL l = some m → m ∈ l ∧ ∀ y ∈ l, y ≤ m
  | [], _, e => by cases e
  | x :: r, m, e => by
    unfold maxL at e
    cases h : maxL r with
    | none =>
      rw [h] at e
      cases e
      cases r with
      | nil => exact ⟨List.mem_cons_self, fun y hy => by simp at hy; omega⟩
      | cons z t =>
        unfold maxL at h
        split at h <;> cases h
    | some k =>
      rw [h] at e
      dsimp only at e
      obtain ⟨h1, h2⟩ := maxL_ok h
      split at e
      · cases e
        exact ⟨List.mem_cons_self, fun y hy => (List.mem_cons.mp hy).elim (fun e => by omega) fun z => by have := h2 y z; omega⟩
      · cases e
        exact ⟨List.mem_cons_of_mem _ h1, fun y hy => (List.mem_cons.mp hy).elim (fun e => by omega) fun z => h2 y z⟩
theorem minL_ok : ∀ {l : List Int} {m : Int}, minL l = some m → m ∈ l ∧ ∀ y ∈ l, m ≤ y
  | [], _, e => by cases e
  | x :: r, m, e => by
    unfold minL at e
    cases h : minL r with
    | none =>
      rw [h] at e
      cases e
      cases r with
      | nil => exact ⟨List.mem_cons_self, fun y hy => by simp at hy; omega⟩
      | cons z t =>
        unfold minL at h
        split at h <;> cases h
    | some k =>
      rw [h] at e
      dsimp only at e
      obtain ⟨h1, h2⟩ := minL_ok h
      split at e
      · cases e
        exact ⟨List.mem_cons_self, fun y hy => (List.mem_cons.mp hy).elim (fun e => by omega) fun z => by have := h2 y z; omega⟩
      · cases e
        exact ⟨List.mem_cons_of_mem _ h1, fun y hy => (List.mem_cons.mp hy).elim (fun e => by omega) fun z => h2 y z⟩
def gMax : List D → Sto → Option D := fun ds st => match ds with
  | [.int i, .int j] => some (.int (if j > i then j else i))
  | [x] => match lstI st x with
    | some ns => match maxL ns with
      | some m => some (.int m)
      | none => none
    | none => none
  | _ => none
def gMin : List D → Sto → Option D := fun ds st => match ds with
  | [.int i, .int j] => some (.int (if j < i then j else i))
  | [x] => match lstI st x with
    | some ns => match minL ns with
      | some m => some (.int m)
      | none => none
    | none => none
  | _ => none
theorem ok_max {mg : Glob} : BiOk mg (RE mg) (fun xs H Q => (∃ i j, xs = [.int i, .int j] ∧ Q (.int (if j > i then j else i)) H) ∨ rMax mg.K xs H Q) gMax := by
  intro N c H st us ds d Q W p q k
  unfold gMax at q
  split at q
  · rename_i i j
    cases q
    obtain ⟨u, u', rfl, h, h'⟩ := tl2 p
    exact .inl ⟨i, j, by rw [h.int, h'.int], k _ N c H Ex.refl W (.int _)⟩
  · split at q
    · rename_i ns hn
      split at q
      · rename_i m hm
        cases q
        obtain ⟨u, rfl, h⟩ := tl1 p
        obtain ⟨a, rfl, ha⟩ := h.ints W hn
        obtain ⟨h1, h2⟩ := maxL_ok hm
        refine .inr ⟨a, ns, rfl, ha, List.length_pos_of_mem h1, fun m' h3 h4 => ?_⟩
        have e : m' = m := by
          have := h2 m' h3
          have := h4 m h1
          omega
        rw [e]
        exact k _ N c H Ex.refl W (.int _)
      · cases q
    · cases q
  · cases q
theorem ok_min {mg : Glob} : BiOk mg (RE mg) (fun xs H Q => (∃ i j, xs = [.int i, .int j] ∧ Q (.int (if j < i then j else i)) H) ∨ rMin mg.K xs H Q) gMin := by
  intro N c H st us ds d Q W p q k
  unfold gMin at q
  split at q
  · rename_i i j
    cases q
    obtain ⟨u, u', rfl, h, h'⟩ := tl2 p
    exact .inl ⟨i, j, by rw [h.int, h'.int], k _ N c H Ex.refl W (.int _)⟩
  · split at q
    · rename_i ns hn
      split at q
      · rename_i m hm
        cases q
        obtain ⟨u, rfl, h⟩ := tl1 p
        obtain ⟨a, rfl, ha⟩ := h.ints W hn
        obtain ⟨h1, h2⟩ := minL_ok hm
        refine .inr ⟨a, ns, rfl, ha, List.length_pos_of_mem h1, fun m' h3 h4 => ?_⟩
        have e : m' = m := by
          have := h2 m' h3
          have := h4 m h1
          omega
        rw [e]
        exact k _ N c H Ex.refl W (.int _)
      · cases q
    · cases q
  · cases q
/-- list(x), tuple(x) -/
def gList : List D → Sto → Option (List D) := fun ds st => match ds with
  | [.tup xs] => some xs
  | [x] => lstR st x
  | _ => none
theorem ok_list {mg : Glob} : BiOk mg (RN mg) (fun xs H Q => ∃ p ys, xs = [.ref p] ∧ (SqL mg.K H p ys ∨ SqT mg.K H p ys) ∧ ∀ l, H l = none → Q (.ref l) (upd H l (.lst ys))) gList := by
  intro N c H st us ds d Q W p q k
  unfold gList at q
  split at q
  · cases q
    obtain ⟨u, rfl, h⟩ := tl1 p
    obtain ⟨a, vs, rfl, ha, r⟩ := h.tup
    exact ⟨a, vs, rfl, .inr (SqT.of ha), fun l hl => k _ _ _ _ (Ex.laidN W hl) (W.laidN hl) (RN.laid W hl r)⟩
  · obtain ⟨u, rfl, h⟩ := tl1 p
    obtain ⟨a, vs, rfl, ha, r⟩ := RepT.read W h q
    exact ⟨a, vs, rfl, .inl ha, fun l hl => k _ _ _ _ (Ex.laidN W hl) (W.laidN hl) (RN.laid W hl r)⟩
  · cases q
section
variable {mg : Glob} {X : Cx} {e : Expr} {es : List Expr} {p pos : Pos} {f : SA}
theorem d_len (hm : X.mg "len" = none) (ha : PA X (e :: es) (tAP mg f)) (hg : Gl X "len" := by rfl) (he : starEach (e :: es) X.env = (false, eval e X.env) :: starEach es X.env := by rfl) (hpl : (backTo pos (starEach es X.env)).any (·.1) = false := by rfl) (hK : X.K = mg.K := by rfl) : PE X (.Call (.Name "len" p) (e :: es) [] pos) (tE mg (eBi gLen f)) :=
  d_bi (hK ▸ CallR.or call_len_seq call_len_str) ok_len back_E hg hm PySem.boot_len ha (by decide) (by decide) he hpl
theorem d_sum (hc : X.calm = true) (hm : X.mg "sum" = none) (ha : PA X (e :: es) (tAP mg f)) (hg : Gl X "sum" := by rfl) (he : starEach (e :: es) X.env = (false, eval e X.env) :: starEach es X.env := by rfl) (hpl : (backTo pos (starEach es X.env)).any (·.1) = false := by rfl) (hK : X.K = mg.K := by rfl) : PE X (.Call (.Name "sum" p) (e :: es) [] pos) (tE mg (eBi gSum f)) :=
  d_bi (hK ▸ cr_sum hc) ok_sum back_E hg hm (by decide +kernel) ha (by decide) (by decide) he hpl
theorem d_max (hc : X.calm = true) (hm : X.mg "max" = none) (ha : PA X (e :: es) (tAP mg f)) (hg : Gl X "max" := by rfl) (he : starEach (e :: es) X.env = (false, eval e X.env) :: starEach es X.env := by rfl) (hpl : (backTo pos (starEach es X.env)).any (·.1) = false := by rfl) (hK : X.K = mg.K := by rfl) : PE X (.Call (.Name "max" p) (e :: es) [] pos) (tE mg (eBi gMax f)) :=
  d_bi (hK ▸ CallR.or (call_max2 hc) (cr_max hc)) ok_max back_E hg hm (by decide +kernel) ha (by decide) (by decide) he hpl
theorem d_min (hc : X.calm = true) (hm : X.mg "min" = none) (ha : PA X (e :: es) (tAP mg f)) (hg : Gl X "min" := by rfl) (he : starEach (e :: es) X.env = (false, eval e X.env) :: starEach es X.env := by rfl) (hpl : (backTo pos (starEach es X.env)).any (·.1) = false := by rfl) (hK : X.K = mg.K := by rfl) : PE X (.Call (.Name "min" p) (e :: es) [] pos) (tE mg (eBi gMin f)) :=
  d_bi (hK ▸ CallR.or (call_min2 hc) (cr_min hc)) ok_min back_E hg hm (by decide +kernel) ha (by decide) (by decide) he hpl
theorem d_list (hm : X.mg "list" = none) (ha : PA X (e :: es) (tAP mg f)) (hg : Gl X "list" := by rfl) (he : starEach (e :: es) X.env = (false, eval e X.env) :: starEach es X.env := by rfl) (hpl : (backTo pos (starEach es X.env)).any (·.1) = false := by rfl) (hK : X.K = mg.K := by rfl) : PE X (.Call (.Name "list" p) (e :: es) [] pos) (tL mg (eBi gList f)) :=
  d_bt (hK ▸ call_list_of) ok_list back_N hg hm (by decide +kernel) ha (by decide) (by decide) he hpl
end
end LW

/-! LwF: repr, isinstance; defs by their promise. -/
namespace LW
open PySem L2 PyProof.Rows

/-! ### repr -/
/-! ### isinstance -/
inductive Ty7 where
  | non | bl | int | str | lst | tup | dic
def Ty7.name : Ty7 → String
  | .non => "NoneType"
  | .bl => "bool"
  | .int => "int"
  | .str => "str"
  | .lst => "list"
  | .tup => "tuple"
  | .dic => "dict"
/-- a dict in a cell -/
def isDcl (st : Sto) (k : Nat) : Bool := (dcG st k).isSome
theorem Wd.dcl {mg : Glob} {N : Prot} {c : List Addr} {H : Hp} {st : Sto} (W : Wd mg N c H st) {k : Nat} {a : Addr} (hc : c[k]? = some a) (e : isDcl st k = true) : (∃ kvs, H a = some (.dK kvs)) ∨ ∃ od kvs, H a = some (.frz od (.dK kvs)) := by
  unfold isDcl at e
  cases h : LW.dcG st k with
  | none => rw [h] at e; cases e
  | some p =>
    obtain ⟨kvs, ha, _⟩ := W.dcG hc h
    exact ha.imp (fun z => ⟨_, z⟩) fun ⟨od, z⟩ => ⟨_, _, z⟩
def ty7 (st : Sto) : D → Option Ty7
  | .non => some .non
  | .bl _ => some .bl
  | .int _ => some .int
  | .str _ => some .str
  | .tup _ => some .tup
  | .lst _ => some .lst
  | .cell k => match lcG st k with
    | some _ => some .lst
    | none => none
  | .dcl k => match isDcl st k with
    | true => some .dic
    | false => none
  | .dic _ _ => some .dic
  | .dit _ _ => none
  | _ => none
/-- a built-in class that is asked for -/
def kind7 (b : String) : Option Ty7 := if b = "int" then some .int else if b = "str" then some .str else if b = "list" then some .lst else if b = "tuple" then some .tup else if b = "dict" then some .dic else if b = "bool" then some .bl else none
def isi7 : Ty7 → Ty7 → Bool
  | .int, .int => true
  | .bl, .int => true
  | .bl, .bl => true
  | .str, .str => true
  | .lst, .lst => true
  | .tup, .tup => true
  | .dic, .dic => true
  | _, _ => false
theorem isi7_ok (t k : Ty7) (hk : k ≠ .non) : kitB t.name k.name = some (isi7 t k) := by
  cases k <;> first | exact absurd rfl hk | (cases t <;> decide +kernel)
theorem kind7_name {b : String} {k : Ty7} (h : kind7 b = some k) : k.name = b ∧ k ≠ .non := by
  unfold kind7 at h
  split at h
  · rename_i e; cases h; exact ⟨e.symm, by simp⟩
  · split at h
    · rename_i e; cases h; exact ⟨e.symm, by simp⟩
    · split at h
      · rename_i e; cases h; exact ⟨e.symm, by simp⟩
      · split at h
        · rename_i e; cases h; exact ⟨e.symm, by simp⟩
        · split at h
          · rename_i e; cases h; exact ⟨e.symm, by simp⟩
          · split at h
            · rename_i e; cases h; exact ⟨e.symm, by simp⟩
            · cases h
theorem ty7_of {mg : Glob} {N : Prot} {c : List Addr} {H : Hp} {st : Sto} {u : V} {x : D} {t : Ty7} {K : PySem.W.Frag} (W : Wd mg N c H st) (h : RepT mg N c H u x) (e : ty7 st x = some t) : TyX K H u (.type t.name) := by
  rcases h with h | ⟨a, vs, xs, rfl, rfl, ha, _, r⟩
  · cases h with
    | non => cases e; exact .base .non
    | bl b => cases e; exact .base (.bl b)
    | int i => cases e; exact .base (.int i)
    | str z => cases e; exact .base (.str z)
    | tup h _ => cases e; exact .base (.tup h)
    | lst h _ _ => cases e; exact .base (.lst h)
    | @cell k a hc =>
      have e : (match lcG st k with | some _ => some Ty7.lst | none => none) = some t := e
      cases hx : lcG st k with
      | none => rw [hx] at e; cases e
      | some xs =>
        rw [hx] at e
        cases e
        obtain ⟨vs, ha, _⟩ := W.lstC hc hx
        exact .base (.lst ha)
    | @dcl k a hc =>
      have e : (match isDcl st k with | true => some Ty7.dic | false => none) = some t := e
      cases hx : isDcl st k with
      | false => rw [hx] at e; cases e
      | true =>
        rw [hx] at e
        cases e
        rcases W.dcl hc hx with ⟨kvs, ha⟩ | ⟨od, kvs, ha⟩
        · exact .base (.dK ha)
        · exact .fDict ha
    | dic h _ _ _ => cases e; exact .base (.dK h)
    | dfz h _ _ _ => cases e; exact .fDict h
    | _ => cases e
  · cases e
    exact .base (.lst ha)
/-- an own class as isinstance sees it -/
structure CF (K : PySem.W.Frag) (C : Addr) : Prop where
  cl : Cls K C
  ha : PySem.W.findIn K (.ref C) "__class__" = some (some (.builtin "object.__class__"))
  hn : PySem.W.specialIn K (.builtin "object.__class__") "__get__" = some (some (.builtin "getset_descriptor.__get__"))
  htk : PySem.W.takesIn K (.builtin "object.__class__") = some true
  hm : PySem.W.mroIn K C (.type "object") = some true
/-- the own classes cs: none is a kind of another -/
structure Isi (mg : Glob) (cs : List Str) : Prop where
  cf : ∀ n C, n ∈ cs → mg.mg n = some (.ref C) → CF mg.K C
  oo : ∀ n m C C', n ∈ cs → m ∈ cs → mg.mg n = some (.ref C) → mg.mg m = some (.ref C') → PySem.W.kitOne mg.K (.ref C) (.ref C') = some (decide (n = m))
  bo : ∀ (t : Ty7) m C, m ∈ cs → mg.mg m = some (.ref C) → PySem.W.kitOne mg.K (.type t.name) (.ref C) = some false
  ob : ∀ n C (t : Ty7), n ∈ cs → mg.mg n = some (.ref C) → t ≠ .non → PySem.W.kitOne mg.K (.ref C) (.type t.name) = some false
def gIsi (cs : List Str) : List D → Sto → Option D := fun ds st => match ds with
  | [x, .ty b] => match kind7 b with
    | some k => match ty7 st x with
      | some t => some (.bl (isi7 t k))
      | none => match x with
        | .obj n _ _ => if n ∈ cs then some (.bl false) else none
        | _ => none
    | none => none
  | [x, .cls m] => if m ∈ cs then (match ty7 st x with
      | some _ => some (.bl false)
      | none => match x with
        | .obj n _ _ => if n ∈ cs then some (.bl (decide (n = m))) else none
        | _ => none) else none
  | _ => none
theorem RepT.obj {mg : Glob} {N : Prot} {c : List Addr} {H : Hp} {u : V} {cn : Str} {ns : List Str} {ds : List D} (h : RepT mg N c H u (.obj cn ns ds)) : ∃ a C dx fs, u = .ref a ∧ mg.mg cn = some (.ref C) ∧ H a = some (.ins C dx fs) ∧ fs.map (·.1) = ns ∧ RepL mg N c H (fs.map (·.2)) ds := by
  rcases h with h | ⟨_, _, _, _, e, _⟩
  · cases h with
    | obj hc ha _ hn r => exact ⟨_, _, _, _, rfl, hc, ha, hn, r⟩
  · cases e
theorem RepT.cls {mg : Glob} {N : Prot} {c : List Addr} {H : Hp} {u : V} {cn : Str} (h : RepT mg N c H u (.cls cn)) : ∃ C, u = .ref C ∧ mg.mg cn = some (.ref C) := by
  rcases h with h | ⟨_, _, _, _, e, _⟩
  · cases h with
    | cls hc => exact ⟨_, rfl, hc⟩
  · cases e
theorem ok_isi {mg : Glob} {cs : List Str} (T : Isi mg cs) : BiOk mg (RE mg) (rIsi mg.K) (gIsi cs) := by
  intro N c H st us ds d Q W p q k
  unfold gIsi at q
  split at q
  · rename_i x b
    obtain ⟨u, u', rfl, h, h'⟩ := tl2 p
    have e' := h'.ty
    subst e'
    split at q
    · rename_i kd hkd
      obtain ⟨hname, hnon⟩ := kind7_name hkd
      split at q
      · rename_i t ht
        cases q
        exact ⟨u, .ty b, _, _, _, rfl, .ty b, ty7_of W h ht, by rw [← hname]; exact kit_ty (isi7_ok t kd hnon), k _ N c H Ex.refl W (.bl _)⟩
      · split at q
        · rename_i n ns vs
          split at q
          · rename_i hn
            cases q
            obtain ⟨a, C, dx, fs, rfl, hc, ha, _, _⟩ := h.obj
            have cf := T.cf _ C hn hc
            exact ⟨_, .ty b, _, _, _, rfl, .ty b, .base (.ins ha cf.cl cf.ha cf.hn cf.htk cf.hm), by rw [← hname]; exact T.ob _ C kd hn hc hnon, k _ N c H Ex.refl W (.bl _)⟩
          · cases q
        · cases q
    · cases q
  · rename_i x m
    obtain ⟨u, u', rfl, h, h'⟩ := tl2 p
    obtain ⟨C', rfl, hc'⟩ := h'.cls
    split at q
    · rename_i hm
      split at q
      · rename_i t ht
        cases q
        exact ⟨u, .ref C', _, _, _, rfl, .own C', ty7_of W h ht, T.bo t m C' hm hc', k _ N c H Ex.refl W (.bl _)⟩
      · split at q
        · rename_i n ns vs
          split at q
          · rename_i hn
            cases q
            obtain ⟨a, C, dx, fs, rfl, hc, ha, _, _⟩ := h.obj
            have cf := T.cf _ C hn hc
            exact ⟨_, .ref C', _, _, _, rfl, .own C', .base (.ins ha cf.cl cf.ha cf.hn cf.htk cf.hm), T.oo _ m C C' hn hm hc hc', k _ N c H Ex.refl W (.bl _)⟩
          · cases q
        · cases q
    · cases q
  · cases q
section
variable {mg : Glob} {X : Cx} {e : Expr} {es : List Expr} {p pos : Pos} {f : SA} {cs : List Str}
theorem d_isi (T : Isi mg cs) (hm : X.mg "isinstance" = none) (ha : PA X (e :: es) (tAP mg f)) (hg : Gl X "isinstance" := by rfl) (he : starEach (e :: es) X.env = (false, eval e X.env) :: starEach es X.env := by rfl) (hpl : (backTo pos (starEach es X.env)).any (·.1) = false := by rfl) (hK : X.K = mg.K := by rfl) : PE X (.Call (.Name "isinstance" p) (e :: es) [] pos) (tE mg (eBi (gIsi cs) f)) :=
  d_bi (hK ▸ call_isi) (ok_isi T) back_E hg hm (by decide +kernel) ha (by decide) (by decide) he hpl
/-- a class of the program as a value -/
theorem d_cls {x : Str} {C : Addr} (hg : Gl X x) (hm : X.mg x = some (.ref C)) (hd : (x == ("__debug__" : Str)) = false := by decide) (hM : X.mg = mg.mg := by rfl) : PE X (.Name x pos) (tE mg (eC (.cls x))) :=
  d_glob hg hm (v := .ref C) rfl (fun _ _ _ => .cls (hM ▸ hm)) hd
end
end LW

/-! LwG: calls of defs, methods, classes, properties, fields. -/
namespace LW
open PySem L2 PyProof.Rows

/-- what a def reckons: by data and the cells -/
abbrev FM := List D → Sto → Option (D × Sto)
/-- the promise: the def hands back what g reckons, and changes nothing but cells -/
def spM (mg : Glob) (g : FM) (n : Nat) : Sp := fun vs H Q _ => vs.length = n ∧ ∃ (N : Prot) (c : List Addr) (ds : List D) (st : Sto) (d : D) (st' : Sto), Wd mg N c H st ∧ RepL mg N c H vs ds ∧ g ds st = some (d, st') ∧
  ∀ v N' c' H', Ex N c H N' c' H' → Wd mg N' c' H' st' → Rep mg N' c' H' v d → Q v H'
/-- only so many arguments -/
def Ar (n : Nat) (g : FM) : Prop := ∀ ds st r, g ds st = some r → ds.length = n
def eCall (g : FM) (dd : List D) (f : SA) : SE := fun env st => match f env st with
  | none => none
  | some (ds, s1) => g (ds ++ dd) s1
/-- defaults as data -/
def Dfl (mg : Glob) (dvs : List V) (dd : List D) : Prop := ∀ N c H, RepL mg N c H dvs dd
theorem dfl_nil {mg : Glob} : Dfl mg [] [] := fun _ _ _ => .nil
section
variable {mg : Glob} {X : Cx} {k : Nat} {f C : Addr} {fd : FuncData} {ps : List Str} {g : FM} {n : Nat} {dvs : List V} {ds : List Value} {dd : List D} {x m : Str} {p pos apos : Pos} {e o : Expr} {es : List Expr} {fs : SA} {fo : SE}
theorem r_call (ha : Ar n g) (hd : Dfl mg dvs dd) {t : TA} (ht : t = tA mg fs) {E : XK} {σ : L2.St} {H : Hp} {Q : VK} (h : tE mg (eCall g dd fs) σ H Q) : tCall (spM mg g n) dvs E t σ H Q := by
  subst ht
  obtain ⟨E0, N, c, env, st, d, st', R, q, kk⟩ := h
  unfold eCall at q
  split at q
  · cases q
  · rename_i ds s1 q1
    refine ⟨E0, N, c, env, st, ds, s1, R, q1, fun vs N1 c1 H1 x1 W1 r1 => ?_⟩
    have r2 := r1.append (hd N1 c1 H1)
    refine ⟨by rw [r2.length]; exact ha _ _ _ q, N1, c1, ds ++ dd, s1, d, st', W1, r2, q, fun v N2 c2 H2 x2 W2 r3 => ?_⟩
    exact kk v N2 c2 H2 (x1.trans x2 R.wd) W2 r3
/-- f(e, ..) -/
theorem d_call (F : FnOk X.prog X.w X.K X.mg X.base CX0 k f fd ps (spM mg g n)) (har : Ar n g) (hr : Room k X.A) (hm : X.mg x = some (.ref f)) (hk : PySem.W.keepIn X.K (.ref f) = true) (hb : Binds X.K fd ps ds) (hd : Vals dvs ds) (hdd : Dfl mg dvs dd) (ha : PA X (e :: es) (tA mg fs))
    (hg : Gl X x := by rfl) (hdb : (x == ("__debug__" : Str)) = false := by decide) (he : starEach (e :: es) X.env = (false, eval e X.env) :: starEach es X.env := by rfl) (hpl : (backTo pos (starEach es X.env)).any (·.1) = false := by rfl) :
    PE X (.Call (.Name x p) (e :: es) [] pos) (tE mg (eCall g dd fs)) :=
  pe_weak (pe_call (E := E0) F hr hg hm hk hb hd pass0 ha hdb he hpl) fun _ _ _ h => r_call har hdd rfl h
/-! ### methods -/
def eMeth (cn m : Str) (g : FM) (dd : List D) (fo : SE) (f : SA) : SE := fun env st => match fo env st with
  | some (.obj cn' ns vs, s1) => if cn' = cn ∧ ¬ m ∈ ns then (match f env s1 with
      | none => none
      | some (ds, s2) => g (.obj cn' ns vs :: (ds ++ dd)) s2) else none
  | _ => none
theorem lookup_no {α : Type} {m : Str} : ∀ {l : List (Str × α)}, ¬ m ∈ l.map (·.1) → l.lookup m = none
  | [], _ => rfl
  | (a, b) :: r, h => by
    rw [List.map_cons, List.mem_cons, not_or] at h
    rw [List.lookup_cons]
    have : (m == a) = false := beq_eq_false_iff_ne.mpr h.1
    rw [this]
    exact lookup_no h.2
theorem r_meth {cn : Str} (hC : mg.mg cn = some (.ref C)) (har : Ar n g) (hd : Dfl mg dvs dd) {t : TA} (ht : ∀ σ H Q, tA mg fs σ H Q → t σ H Q) {E : XK} {σ : L2.St} {H : Hp} {Q : VK} (h : tE mg (eMeth cn m g dd fo fs) σ H Q) : tMeth C m (spM mg g n) dvs E (tE mg fo) t σ H Q := by
  obtain ⟨E0, N, c, env, st, d, st', R, q, kk⟩ := h
  unfold eMeth at q
  split at q
  · rename_i cn' ns vs s1 q1
    split at q
    · rename_i hcn
      obtain ⟨rfl, hm⟩ := hcn
      split at q
      · cases q
      · rename_i ds s2 q2
        refine ⟨E0, N, c, env, st, _, s1, R, q1, fun v N1 c1 H1 x1 W1 r1 => ?_⟩
        obtain ⟨a, C', dx, fs', rfl, hc, ha, hn, rr⟩ := RepT.obj (.inl r1)
        rw [hC] at hc
        cases hc
        refine ⟨a, dx, fs', rfl, ha, lookup_no (by rw [hn]; exact hm), ht _ _ _ ⟨E0, N1, c1, env, s1, ds, s2, R.ex x1 W1, q2, fun us N2 c2 H2 x2 W2 r2 => ?_⟩⟩
        have r3 := r2.append (hd N2 c2 H2)
        have r4 : RepL mg N2 c2 H2 (.ref a :: (us ++ dvs)) (.obj cn' ns vs :: (ds ++ dd)) := .cons (Rep.tr (x2.tr W1) r1) r3
        refine ⟨by rw [r4.length]; exact har _ _ _ q, N2, c2, _, s2, d, st', W2, r4, q, fun w N3 c3 H3 x3 W3 r5 => ?_⟩
        exact kk w N3 c3 H3 ((x1.trans x2 R.wd).trans x3 R.wd) W3 r5
    · cases q
  · cases q
theorem d_meth {cn : Str} (ho : PE X o (tE mg fo)) (hC : mg.mg cn = some (.ref C)) (c : Cls X.K C) (hm : Meth X.K C m f) (F : FnOk X.prog X.w X.K X.mg X.base CX0 k f fd ps (spM mg g n)) (har : Ar n g) (hr : Room k X.A) (hb : Binds X.K fd ps ds) (hd : Vals dvs ds) (hdd : Dfl mg dvs dd) (ha : PA X (e :: es) (tA mg fs))
    {pl : Sem Bool} (hst : starEach (e :: es) X.env = (false, eval e X.env) :: starEach es X.env := by rfl) (hpl : (backTo pos (starEach es X.env)).any (·.1) = false := by rfl)
    (ht : eval (.Call (.Attribute o m apos) (e :: es) [] pos) X.env = (do
      let ov ← eval o X.env
      standAt apos.atName
      let (f, first) ← holding [ov] (getMethod ov m pl)
      callWith pos f first (backTo pos (starEach (e :: es) X.env)) (backToKw pos (keywordEach [] X.env))) := by rfl) :
    PE X (.Call (.Attribute o m apos) (e :: es) [] pos) (tE mg (eMeth cn m g dd fo fs)) :=
  pe_weak (pe_meth (E := E0) ho c hm F hr hb hd pass0 ha hst hpl ht) fun _ _ _ h => r_meth hC har hdd (fun _ _ _ z => z) h
theorem d_meth0 {cn : Str} (ho : PE X o (tE mg fo)) (hC : mg.mg cn = some (.ref C)) (c : Cls X.K C) (hm : Meth X.K C m f) (F : FnOk X.prog X.w X.K X.mg X.base CX0 k f fd ps (spM mg g n)) (har : Ar n g) (hr : Room k X.A) (hb : Binds X.K fd ps ds) (hd : Vals dvs ds) (hdd : Dfl mg dvs dd)
    {pl : Sem Bool} (ht : eval (.Call (.Attribute o m apos) [] [] pos) X.env = (do
      let ov ← eval o X.env
      standAt apos.atName
      let (f, first) ← holding [ov] (getMethod ov m pl)
      callWith pos f first (backTo pos (starEach [] X.env)) (backToKw pos (keywordEach [] X.env))) := by rfl) :
    PE X (.Call (.Attribute o m apos) [] [] pos) (tE mg (eMeth cn m g dd fo aNil)) :=
  pe_weak (pe_meth0 (E := E0) ho c hm F hr hb hd pass0 ht) fun _ _ _ h => r_meth hC har hdd (fun σ H Q ⟨E, N, c, env, st, d, st', R, q, k⟩ => by
    cases q
    exact k [] N c H Ex.refl R.wd .nil) h

/-! ### properties, fields -/
def eProp (cn : Str) (g : FM) (fo : SE) : SE := fun env st => match fo env st with
  | some (.obj cn' ns vs, s1) => if cn' = cn then g [.obj cn' ns vs] s1 else none
  | _ => none
def fldD (m : Str) : List Str → List D → Option D
  | n :: ns, v :: vs => if m = n then some v else fldD m ns vs
  | _, _ => none
theorem fldD_ok {N : Prot} {c : List Addr} {H : Hp} {m : Str} : ∀ {fs : List (Str × V)} {ds : List D} {d : D}, RepL mg N c H (fs.map (·.2)) ds → fldD m (fs.map (·.1)) ds = some d → ∃ v, fs.lookup m = some v ∧ Rep mg N c H v d
  | [], _, _, _, e => by cases e
  | (a, b) :: r, [], _, h, _ => by cases h
  | (a, b) :: r, d0 :: ds, d, h, e => by
    cases h with
    | cons h t =>
      show ∃ v, List.lookup m ((a, b) :: r) = some v ∧ _
      rw [List.lookup_cons]
      by_cases q : m = a
      · subst q
        have e' : (if m = m then some d0 else fldD m (r.map (·.1)) ds) = some d := e
        rw [if_pos rfl] at e'
        cases e'
        exact ⟨b, by simp, h⟩
      · have e' : (if m = a then some d0 else fldD m (r.map (·.1)) ds) = some d := e
        rw [if_neg q] at e'
        rw [show (m == a) = false from beq_eq_false_iff_ne.mpr q]
        exact fldD_ok t e'
def eFld (cn m : Str) (fo : SE) : SE := fun env st => match fo env st with
  | some (.obj cn' ns vs, s1) => if cn' = cn then (match fldD m ns vs with
      | some d => some (d, s1)
      | none => none) else none
  | _ => none
theorem d_fld {cn : Str} (ho : PE X o (tP mg fo)) (hC : mg.mg cn = some (.ref C)) (c : Cls X.K C) (hn : NoAttr X.K C m) (hab : attributeBase o m X.env (eval o X.env) = eval o X.env := by rfl) : PE X (.Attribute o m pos) (tE mg (eFld cn m fo)) :=
  pe_weak (pe_fld ho hab) fun σ H Q h => by
    obtain ⟨E0, N, c0, env, st, d, st', R, q, kk⟩ := h
    unfold eFld at q
    split at q
    · rename_i cn' ns vs s1 q1
      split at q
      · rename_i hcn
        subst hcn
        split at q
        · rename_i d0 hf
          cases q
          refine ⟨E0, N, c0, env, st, _, _, R, q1, fun v N1 c1 H1 x1 W1 r1 => ?_⟩
          obtain ⟨a, C', dx, fs', rfl, hc, ha, hnn, rr⟩ := RepT.obj r1
          rw [hC] at hc
          cases hc
          subst hnn
          obtain ⟨v, hv, rv⟩ := fldD_ok rr hf
          exact ⟨a, C, dx, fs', v, rfl, ha, c, hn, hv, kk v N1 c1 H1 x1 W1 rv⟩
        · cases q
      · cases q
    · cases q
end

/-! ### a new instance -/
/-- what an __init__ reckons: the fields -/
abbrev FI := List D → Sto → Option ((List Str × List D) × Sto)
def ArI (n : Nat) (g : FI) : Prop := ∀ ds st r, g ds st = some r → ds.length = n
def spI (mg : Glob) (cn : Str) (g : FI) (n : Nat) : Sp := fun vs H Q _ => vs.length = n + 1 ∧ ∃ (N : Prot) (c : List Addr) (x dx C : Addr) (us : List V) (ds : List D) (st : Sto) (ns : List Str) (fds : List D) (st' : Sto),
  vs = .ref x :: us ∧ mg.mg cn = some (.ref C) ∧ H x = some (.ins C dx []) ∧ N x ∧ x ∉ c ∧ Wd mg N c H st ∧ RepL mg N c H us ds ∧ g ds st = some ((ns, fds), st') ∧
  ∀ N' c' H' dx' fs, (∀ a o, H a = some o → a ∉ c → a ≠ x → H' a = some o) → (∀ a, N' a → N a ∨ H a = none) → (∀ a, N a → N' a) → (∀ (k : Nat) a, c[k]? = some a → c'[k]? = some a) → (∀ a, a ∈ c' → a ∈ c ∨ H a = none) →
    Wd mg N' c' H' st' → H' x = some (.ins C dx' fs) → fs.map (·.1) = ns → RepL mg N' c' H' (fs.map (·.2)) fds → Q .non H'
def eMake (cn : Str) (g : FI) (dd : List D) (f : SA) : SE := fun env st => match f env st with
  | none => none
  | some (ds, s1) => match g (ds ++ dd) s1 with
    | none => none
    | some ((ns, fds), s2) => some (.obj cn ns fds, s2)
section
variable {mg : Glob} {X : Cx} {k : Nat} {f C : Addr} {fd : FuncData} {ps : List Str} {g : FI} {n : Nat} {dvs : List V} {ds : List Value} {dd : List D} {x m : Str} {p pos apos : Pos} {e o : Expr} {es : List Expr} {fs : SA} {fo : SE}
theorem r_make {cn : Str} (hC : mg.mg cn = some (.ref C)) (har : ArI n g) (hd : Dfl mg dvs dd) {E : XK} {σ : L2.St} {H : Hp} {Q : VK} (h : tE mg (eMake cn g dd fs) σ H Q) : tMake C (spI mg cn g n) dvs E (tA mg fs) σ H Q := by
  obtain ⟨E0, N, c, env, st, d, st', R, q, kk⟩ := h
  unfold eMake at q
  split at q
  · cases q
  · rename_i ds s1 q1
    split at q
    · cases q
    · rename_i ns fds s2 q2
      cases q
      refine ⟨E0, N, c, env, st, ds, s1, R, q1, fun vs N1 c1 H1 x1 W1 r1 => fun z dz hz hdz hne => ?_⟩
      have r2 := r1.append (hd N1 c1 H1)
      -- the own dict is laid, then the instance, protected
      have xa := Ex.laid (o := .own z) W1 hdz
      have Wa := W1.laid (o := .own z) hdz
      have hz' : (upd H1 dz (.own z)) z = none := by rw [upd_ne (Ne.symm hne)]; exact hz
      have xb := Ex.laidN (o := .ins C dz []) Wa hz'
      have Wb := Wa.laidN (o := .ins C dz []) hz'
      have xab := xa.trans xb W1
      have r3 := r2.tr (xab.tr W1)
      refine ⟨by show (vs ++ dvs).length + 1 = n + 1; rw [r2.length, har _ _ _ q2], _, c1, z, dz, C, vs ++ dvs, ds ++ dd, s1, ns, fds, _, rfl, hC, upd_same, .inr rfl, Wa.cnone hz', Wb, r3, q2, ?_⟩
      intro N' c' H' dx' fs' h1 h2 h3 h4 h5 W' h6 h7 r4
      refine ⟨rfl, ?_⟩
      have nz : z ∉ c' := fun q => (h5 z q).elim (Wa.cnone hz') fun e => by rw [upd_same] at e; cases e
      have less : ∀ a, (N' a ∧ a ≠ z) → N' a := fun a q => q.1
      have free1 : ∀ a, (upd (upd H1 dz (.own z)) z (.ins C dz [])) a = none → H1 a = none := fun a e => by
        by_cases q1 : a = z
        · rw [q1]; exact hz
        · rw [upd_ne q1] at e
          by_cases q2 : a = dz
          · rw [q2]; exact hdz
          · rw [upd_ne q2] at e; exact e
      have xx : Ex N1 c1 H1 (fun a => N' a ∧ a ≠ z) c' H' := by
        refine ⟨fun a o e nc => ?_, fun a q => ?_, fun a q => ?_, h4, fun a q => ?_⟩
        · have n1 : a ≠ z := ne_of_none e hz
          have n2 : a ≠ dz := ne_of_none e hdz
          exact h1 a o (by rw [upd_ne n1, upd_ne n2]; exact e) nc n1
        · rcases h2 a q.1 with (z1 | z1) | z1
          · exact .inl z1
          · exact absurd z1 q.2
          · exact .inr (free1 a z1)
        · exact ⟨h3 a (.inl q), fun e => W1.trk a q (by rw [e]; exact hz)⟩
        · exact (h5 a q).elim .inl fun e => .inr (free1 a e)
      have W2 : Wd mg (fun a => N' a ∧ a ≠ z) c' H' _ := W'.less less fun a q => ⟨W'.cn a q, fun e => nz (e ▸ q)⟩
      exact kk _ _ _ _ (x1.trans xx R.wd) W2 (.obj hC h6 (fun q => q.2 rfl) h7 (r4.tr (Tr.less less)))
theorem d_make (M : Mk X.K C f) (F : FnOk X.prog X.w X.K X.mg X.base CX0 k f fd ps (spI mg x g n)) (har : ArI n g) (hr : Room (k + 1) X.A) (hm : X.mg x = some (.ref C)) (hb : Binds X.K fd ps ds) (hd : Vals dvs ds) (hdd : Dfl mg dvs dd) (ha : PA X (e :: es) (tA mg fs))
    (hM : X.mg = mg.mg := by rfl) (hg : Gl X x := by rfl) (hdb : (x == ("__debug__" : Str)) = false := by decide) (he : starEach (e :: es) X.env = (false, eval e X.env) :: starEach es X.env := by rfl) (hpl : (backTo pos (starEach es X.env)).any (·.1) = false := by rfl) :
    PE X (.Call (.Name x p) (e :: es) [] pos) (tE mg (eMake x g dd fs)) :=
  pe_weak (pe_make (E := E0) M F hr hg hm hb hd pass0 ha hdb he hpl) fun _ _ _ h => r_make (hM ▸ hm) har hdd h
end
end LW

/-! LwH: statements. -/
namespace LW
open PySem L2 PyProof.Rows

inductive Out where
  | nx (e : Env) | rt (d : D) | bk (e : Env) | ct (e : Env)
abbrev SS := Env → Sto → Option (Out × Sto)
/-- a step of a statement: what is not protected stays -/
structure Sx (N : Prot) (c : List Addr) (H : Hp) (N' : Prot) (c' : List Addr) (H' : Hp) : Prop where
  keep : ∀ a o, H a = some o → ¬ N a → H' a = some o
  new : ∀ a, N' a → N a ∨ H a = none
  pre : ∀ (k : Nat) a, c[k]? = some a → c'[k]? = some a
  newc : ∀ a, a ∈ c' → a ∈ c ∨ H a = none
  trk : ∀ a, H' a = none → H a = none
  tup : ∀ a vs, H a = some (.tup vs) → H' a = some (.tup vs)
/-- the end of a def: seen from its entry -/
structure Fin (mg : Glob) (E : En) (c' : List Addr) (st' : Sto) (H' : Hp) (v : V) (d : D) : Prop where
  wd : Wd mg (fun a => E.N0 a ∨ a ∈ c') c' H' st'
  rep : Rep mg (fun a => E.N0 a ∨ a ∈ c') c' H' v d
  base : ∀ a o, E.H0 a = some o → a ∉ c' → H' a = some o
  pre : ∀ (k : Nat) a, E.c0[k]? = some a → c'[k]? = some a
  newc : ∀ a, a ∈ c' → a ∈ E.c0 ∨ E.H0 a = none
def tS (mg : Glob) (f : SS) : TS := fun De σ H => ∃ (E : En) (N : Prot) (c : List Addr) (env : Env) (st : Sto) (o : Out) (st' : Sto), Rel mg E N c env st σ H ∧ f env st = some (o, st') ∧
  match o with
  | .nx env' => ∀ N' c' σ' H', Sx N c H N' c' H' → Rel mg E N' c' env' st' σ' H' → De.nx σ' H'
  | .bk env' => ∀ N' c' σ' H', Sx N c H N' c' H' → Rel mg E N' c' env' st' σ' H' → De.bk σ' H'
  | .ct env' => ∀ N' c' σ' H', Sx N c H N' c' H' → Rel mg E N' c' env' st' σ' H' → De.ct σ' H'
  | .rt d => ∀ c' H' v, Fin mg E c' st' H' v d → De.rt v H'
section
variable {mg : Glob} {N N' N'' : Prot} {c c' c'' : List Addr} {H H' H'' : Hp} {st st' : Sto} {E : En} {env : Env} {σ : L2.St}
theorem Sx.refl : Sx N c H N c H := ⟨fun _ _ h _ => h, fun _ h => .inl h, fun _ _ h => h, fun _ h => .inl h, fun _ h => h, fun _ _ h => h⟩
theorem Ex.sx (x : Ex N c H N' c' H') (W : Wd mg N c H st) (W' : Wd mg N' c' H' st') : Sx N c H N' c' H' := ⟨fun a o h n => x.keep a o h fun z => n (W.cn a z), x.new, x.pre, x.newc, fun a h => x.free W W' h, fun a vs h => x.keep a _ h (W.ntup h)⟩
theorem Sx.nn (x : Sx N c H N' c' H') {a : Addr} {o : HO} (h : H a = some o) (n : ¬ N a) : ¬ N' a := fun z => (x.new a z).elim n fun e => by rw [h] at e; cases e
theorem Sx.trans (x : Sx N c H N' c' H') (y : Sx N' c' H' N'' c'' H'') : Sx N c H N'' c'' H'' where
  keep := fun a o h n => y.keep a o (x.keep a o h n) (x.nn h n)
  new := fun a z => (y.new a z).elim (x.new a) fun e => .inr (x.trk a e)
  pre := fun k a h => y.pre k a (x.pre k a h)
  newc := fun a z => (y.newc a z).elim (x.newc a) fun e => .inr (x.trk a e)
  trk := fun a h => x.trk a (y.trk a h)
  tup := fun a vs h => y.tup a vs (x.tup a vs h)
theorem Sx.tr (x : Sx N c H N' c' H') : Tr N c H N' c' H' := ⟨x.keep, x.new, x.pre, x.tup⟩
/-- the end of a def, from data of the frame -/
theorem Rel.fin {v : V} {d : D} (R : Rel mg E N c env st σ H) (r : Rep mg N c H v d) : Fin mg E c st H v d := by
  have less : ∀ a, (E.N0 a ∨ a ∈ c) → N a := fun a z => z.elim (R.n0 a) (R.wd.cn a)
  exact ⟨R.wd.less less fun a z => .inr z, r.tr (Tr.less less), R.base, R.pre, R.newc⟩
end

/-! ### setting a slot -/
section
variable {mg : Glob} {N N' : Prot} {c c' : List Addr} {H H' : Hp} {st st' : Sto} {E : En} {env : Env} {σ : L2.St}
theorem get_set {α : Type} {l : List α} {i j : Nat} {x y : α} (h : (l.set i x)[j]? = some y) : (i = j ∧ y = x) ∨ (i ≠ j ∧ l[j]? = some y) := by
  by_cases e : i = j
  · subst e
    by_cases hl : i < l.length
    · rw [List.getElem?_set_self hl] at h
      cases h
      exact .inl ⟨rfl, rfl⟩
    · rw [List.getElem?_eq_none (by simpa using hl)] at h
      cases h
  · rw [List.getElem?_set_ne e] at h
    exact .inr ⟨e, h⟩
/-- a slot gets a new content that is not the frame's own -/
theorem Rel.set {i : Nat} {s : Sl} {v : V} (R : Rel mg E N c env st σ H) (hs : s.isOwn = false) (h : SlR mg N c H s (some v)) : Rel mg E N c (env.set i s) st (σ.set i (some v)) H where
  len := by rw [List.length_set, List.length_set]; exact R.len
  sl := fun j s' e => by
    rcases get_set e with ⟨rfl, rfl⟩ | ⟨ne, e⟩
    · have hl : i < σ.length := by
        rw [R.len]
        have := (List.getElem?_eq_some_iff.mp e).1
        simpa using this
      rw [List.getElem?_set_self hl]
      exact h
    · rw [List.getElem?_set_ne ne]
      exact R.sl j s' e
  own := fun j s' a e ho es => by
    rcases get_set e with ⟨rfl, rfl⟩ | ⟨ne, e⟩
    · rw [hs] at ho; cases ho
    · rw [List.getElem?_set_ne ne] at es
      exact R.own j s' a e ho es
  inj := fun j k s1 s2 a e1 o1 e2 o2 h1 h2 => by
    rcases get_set e1 with ⟨rfl, rfl⟩ | ⟨n1, e1⟩
    · rw [hs] at o1; cases o1
    · rcases get_set e2 with ⟨rfl, rfl⟩ | ⟨n2, e2⟩
      · rw [hs] at o2; cases o2
      · rw [List.getElem?_set_ne n1] at h1
        rw [List.getElem?_set_ne n2] at h2
        exact R.inj j k s1 s2 a e1 o1 e2 o2 h1 h2
  wd := R.wd
  n0 := R.n0
  t0 := R.t0
  base := R.base
  pre := R.pre
  newc := R.newc
  slf := fun j cn ns ds a e es => by
    rcases get_set e with ⟨rfl, rfl⟩ | ⟨ne, e⟩
    · cases hs
    · rw [List.getElem?_set_ne ne] at es
      exact R.slf j cn ns ds a e es
/-- a slot gets a list of the frame's own: a new one, protected -/
theorem Rel.setOwn {i : Nat} {p : Addr} {vs : List V} {xs : List D} (R : Rel mg E N c env st σ H) (hp : H p = some (.lst vs)) (np : N p) (nc : p ∉ c) (h0 : E.H0 p = none) (r : RepL mg N c H vs xs)
    (nw : ∀ (j : Nat) s, env[j]? = some s → s.isOwn = true → σ[j]? ≠ some (some (.ref p))) : Rel mg E N c (env.set i (.own xs)) st (σ.set i (some (.ref p))) H where
  len := by rw [List.length_set, List.length_set]; exact R.len
  sl := fun j s' e => by
    rcases get_set e with ⟨rfl, rfl⟩ | ⟨ne, e⟩
    · have hl : i < σ.length := by
        rw [R.len]
        have := (List.getElem?_eq_some_iff.mp e).1
        simpa using this
      rw [List.getElem?_set_self hl]
      exact ⟨p, vs, rfl, hp, r⟩
    · rw [List.getElem?_set_ne ne]
      exact R.sl j s' e
  own := fun j s' a e ho es => by
    rcases get_set e with ⟨rfl, rfl⟩ | ⟨ne, e⟩
    · have hl : i < σ.length := by
        rw [R.len]
        have := (List.getElem?_eq_some_iff.mp e).1
        simpa using this
      rw [List.getElem?_set_self hl] at es
      cases es
      exact ⟨np, nc, h0⟩
    · rw [List.getElem?_set_ne ne] at es
      exact R.own j s' a e ho es
  inj := fun j k s1 s2 a e1 o1 e2 o2 h1 h2 => by
    have hl : ∀ {s : Sl}, (env.set i (.own xs))[i]? = some s → i < σ.length := fun {s} e => by
      rw [R.len]
      have := (List.getElem?_eq_some_iff.mp e).1
      simpa using this
    rcases get_set e1 with ⟨rfl, rfl⟩ | ⟨n1, e1'⟩
    · rcases get_set e2 with ⟨rfl, rfl⟩ | ⟨n2, e2'⟩
      · rfl
      · rw [List.getElem?_set_self (hl e1)] at h1
        cases h1
        rw [List.getElem?_set_ne n2] at h2
        exact absurd h2 (nw k s2 e2' o2)
    · rcases get_set e2 with ⟨rfl, rfl⟩ | ⟨n2, e2'⟩
      · rw [List.getElem?_set_self (hl e2)] at h2
        cases h2
        rw [List.getElem?_set_ne n1] at h1
        exact absurd h1 (nw j s1 e1' o1)
      · rw [List.getElem?_set_ne n1] at h1
        rw [List.getElem?_set_ne n2] at h2
        exact R.inj j k s1 s2 a e1' o1 e2' o2 h1 h2
  wd := R.wd
  n0 := R.n0
  t0 := R.t0
  base := R.base
  pre := R.pre
  newc := R.newc
  slf := fun j cn ns ds a e es => by
    rcases get_set e with ⟨rfl, e2⟩ | ⟨ne, e⟩
    · cases e2
    · rw [List.getElem?_set_ne ne] at es
      exact R.slf j cn ns ds a e es
/-- an address that was new ahead of a step is new at the entry, and no slot's own -/
theorem Rel.fresh0 (R : Rel mg E N c env st σ H) {p : Addr} (h : H p = none) : E.H0 p = none := by
  cases q : E.H0 p with
  | none => rfl
  | some o =>
    have : p ∉ c := R.wd.cnone h
    rw [R.base p o q this] at h; cases h
theorem Rel.notOwn (R : Rel mg E N c env st σ H) {p : Addr} (h : H p = none) : ∀ (j : Nat) s, env[j]? = some s → s.isOwn = true → σ[j]? ≠ some (some (.ref p)) := fun j s e ho z => by
  obtain ⟨n, _⟩ := R.own j s p e ho z
  exact R.wd.trk p n h
theorem Rel.ownNT (R : Rel mg E N c env st σ H) {i : Nat} {s : Sl} {a : Addr} (he : env[i]? = some s) (ho : s.isOwn = true) (hs : σ[i]? = some (some (.ref a))) : ∀ us, H a ≠ some (.tup us) := fun us e => by
  have q := R.sl i s he
  rw [hs] at q
  cases s with
  | un => cases ho
  | val d => cases ho
  | own xs => obtain ⟨b, vs, ev, hb, _⟩ := q; cases ev; rw [e] at hb; cases hb
  | ownI cn ns ds => obtain ⟨b, C, dx, fs, ev, hc, hb, _⟩ := q; cases ev; rw [e] at hb; cases hb
  | ownD ks ds => obtain ⟨b, kvs, ev, hb, _⟩ := q; cases ev; rw [e] at hb; cases hb
  | ownT ks ds => obtain ⟨b, kvs, ev, hb, _⟩ := q; cases ev; rw [e] at hb; cases hb
/-- a list of the frame's own changes -/
theorem Rel.write {i : Nat} {a : Addr} {vs vs' : List V} {xs xs' : List D} (R : Rel mg E N c env st σ H) (he : env[i]? = some (.own xs)) (hs : σ[i]? = some (some (.ref a))) (r : RepL mg N c H vs' xs') :
    Rel mg E N c (env.set i (.own xs')) st σ (upd H a (.lst vs')) ∧ Sx N c H N c (upd H a (.lst vs')) := by
  obtain ⟨na, nc, n0⟩ := R.own i _ a he rfl hs
  obtain ⟨b, us, eb, hb, rb⟩ := R.sl i _ he
  rw [hs] at eb
  cases eb
  have keep : ∀ b o, H b = some o → ¬ N b → (upd H a (.lst vs')) b = some o := fun b o e n => by
    rw [upd_ne (show b ≠ a from fun z => n (z ▸ na))]; exact e
  have tk : ∀ b, (upd H a (.lst vs')) b = none → H b = none := fun b e => by
    by_cases q : b = a
    · rw [q, upd_same] at e; cases e
    · rw [upd_ne q] at e; exact e
  have sx : Sx N c H N c (upd H a (.lst vs')) := ⟨keep, fun _ z => .inl z, fun _ _ z => z, fun _ z => .inl z, tk, fun b us e => by rw [upd_ne (fun z => R.ownNT he rfl hs us (by rw [← z]; exact e))]; exact e⟩
  have il : i < σ.length := (List.getElem?_eq_some_iff.mp hs).1
  have ne_of_own : ∀ (j : Nat) s b, i ≠ j → env[j]? = some s → s.isOwn = true → σ[j]? = some (some (.ref b)) → b ≠ a := fun j s b ne e ho z q => by
    subst q
    exact ne (R.inj i j _ s b he rfl e ho hs z)
  refine ⟨⟨by rw [List.length_set]; exact R.len, fun j s' e => ?_, fun j s' b e ho es => ?_, fun j k s1 s2 b e1 o1 e2 o2 h1 h2 => ?_, ?_, R.n0, R.t0, fun b o e n => ?_, R.pre, R.newc, fun j cn ns ds b e es => (get_set e).elim (fun z => nomatch z.2) fun z => R.slf j cn ns ds b z.2 es⟩, sx⟩
  · rcases get_set e with ⟨rfl, rfl⟩ | ⟨ne, e⟩
    · rw [hs]
      exact ⟨a, vs', rfl, upd_same, r.tr sx.tr⟩
    · have q := R.sl j s' e
      cases s' with
      | un => trivial
      | val d => obtain ⟨v, ev, rv⟩ := q; exact ⟨v, ev, rv.tr sx.tr⟩
      | own ys => obtain ⟨b, us', ev, hb', rv⟩ := q; exact ⟨b, us', ev, by rw [upd_ne (ne_of_own j _ b ne e rfl (join_some ev))]; exact hb', rv.tr sx.tr⟩
      | ownI cn ns ds => obtain ⟨b, C, dx, fs, ev, hc, hb', hn, rv⟩ := q; exact ⟨b, C, dx, fs, ev, hc, by rw [upd_ne (ne_of_own j _ b ne e rfl (join_some ev))]; exact hb', hn, rv.tr sx.tr⟩
      | ownD ks ds => obtain ⟨b, kvs, ev, hb', hn, rv⟩ := q; exact ⟨b, kvs, ev, by rw [upd_ne (ne_of_own j _ b ne e rfl (join_some ev))]; exact hb', hn, rv.tr sx.tr⟩
      | ownT ks ds => obtain ⟨b, kvs, ev, hb', hn, rv⟩ := q; exact ⟨b, kvs, ev, by rw [upd_ne (ne_of_own j _ b ne e rfl (join_some ev))]; exact hb', hn, rv.tr sx.tr⟩
  · rcases get_set e with ⟨rfl, rfl⟩ | ⟨ne, e⟩
    · rw [hs] at es; cases es; exact ⟨na, nc, n0⟩
    · exact R.own j s' b e ho es
  · rcases get_set e1 with ⟨rfl, rfl⟩ | ⟨n1, e1⟩
    · rcases get_set e2 with ⟨rfl, rfl⟩ | ⟨n2, e2⟩
      · rfl
      · exact R.inj _ k _ s2 b he rfl e2 o2 h1 h2
    · rcases get_set e2 with ⟨rfl, rfl⟩ | ⟨n2, e2⟩
      · exact R.inj j _ s1 _ b e1 o1 he rfl h1 h2
      · exact R.inj j k s1 s2 b e1 o1 e2 o2 h1 h2
  · exact ⟨R.wd.len, fun k b ys h1 h2 => by
      obtain ⟨us', hb', rr⟩ := R.wd.sto k b ys h1 h2
      exact ⟨us', by rw [upd_ne (show b ≠ a from fun z => nc (z ▸ List.mem_of_getElem? h1))]; exact hb', rr.tr sx.tr⟩, R.wd.cn, R.wd.nd, fun b z e => R.wd.trk b z (tk b e)⟩
  · have : b ≠ a := fun z => by rw [z, n0] at e; cases e
    rw [upd_ne this]
    exact R.base b o e n
/-- a cell changes -/
theorem Rel.writeCO {k : Nat} {a : Addr} {o' : HO} {xs' : List D} (R : Rel mg E N c env st σ H) (hk : c[k]? = some a) (r : CRep mg N c H o' xs') :
    Rel mg E N c env (st.set k xs') σ (upd H a o') ∧ Sx N c H N c (upd H a o') := by
  have mc : a ∈ c := List.mem_of_getElem? hk
  have na : N a := R.wd.cn a mc
  have keep : ∀ b o, H b = some o → ¬ N b → (upd H a o') b = some o := fun b o e n => by
    rw [upd_ne (show b ≠ a from fun z => n (z ▸ na))]; exact e
  have tk : ∀ b, (upd H a o') b = none → H b = none := fun b e => by
    by_cases q : b = a
    · rw [q, upd_same] at e; cases e
    · rw [upd_ne q] at e; exact e
  have sx : Sx N c H N c (upd H a o') := ⟨keep, fun _ z => .inl z, fun _ _ z => z, fun _ z => .inl z, tk, fun b us e => by rw [upd_ne (fun z => R.wd.ntup (by rw [← z]; exact e) mc)]; exact e⟩
  have ne_of_own : ∀ (j : Nat) s b, env[j]? = some s → s.isOwn = true → σ[j]? = some (some (.ref b)) → b ≠ a := fun j s b e ho z q => by
    subst q
    exact (R.own j s b e ho z).2.1 mc
  refine ⟨⟨R.len, fun j s' e => ?_, R.own, R.inj, ?_, R.n0, R.t0, fun b o e n => ?_, R.pre, R.newc, R.slf⟩, sx⟩
  · have q := R.sl j s' e
    cases s' with
    | un => trivial
    | val d => obtain ⟨v, ev, rv⟩ := q; exact ⟨v, ev, rv.tr sx.tr⟩
    | own ys => obtain ⟨b, us', ev, hb', rv⟩ := q; exact ⟨b, us', ev, by rw [upd_ne (ne_of_own j _ b e rfl (join_some ev))]; exact hb', rv.tr sx.tr⟩
    | ownI cn ns ds => obtain ⟨b, C, dx, fs, ev, hc, hb', hn, rv⟩ := q; exact ⟨b, C, dx, fs, ev, hc, by rw [upd_ne (ne_of_own j _ b e rfl (join_some ev))]; exact hb', hn, rv.tr sx.tr⟩
    | ownD ks ds => obtain ⟨b, kvs, ev, hb', hn, rv⟩ := q; exact ⟨b, kvs, ev, by rw [upd_ne (ne_of_own j _ b e rfl (join_some ev))]; exact hb', hn, rv.tr sx.tr⟩
    | ownT ks ds => obtain ⟨b, kvs, ev, hb', hn, rv⟩ := q; exact ⟨b, kvs, ev, by rw [upd_ne (ne_of_own j _ b e rfl (join_some ev))]; exact hb', hn, rv.tr sx.tr⟩
  · refine ⟨by rw [List.length_set]; exact R.wd.len, fun j b ys h1 h2 => ?_, R.wd.cn, R.wd.nd, fun b z e => R.wd.trk b z (tk b e)⟩
    rcases get_set h2 with ⟨rfl, rfl⟩ | ⟨ne, h2⟩
    · rw [hk] at h1
      cases h1
      exact ⟨_, upd_same, r.tr sx.tr⟩
    · obtain ⟨us', hb', rr⟩ := R.wd.sto j b ys h1 h2
      have : b ≠ a := fun z => by
        subst z
        obtain ⟨i1, j1⟩ := List.getElem?_eq_some_iff.mp hk
        obtain ⟨i2, j2⟩ := List.getElem?_eq_some_iff.mp h1
        exact ne ((List.getElem_inj R.wd.nd).mp (j1.trans j2.symm))
      exact ⟨us', by rw [upd_ne this]; exact hb', rr.tr sx.tr⟩
  · have : b ≠ a := fun z => n (z ▸ mc)
    rw [upd_ne this]
    exact R.base b o e n
theorem Rel.writeC {k : Nat} {a : Addr} {vs' : List V} {xs' : List D} (R : Rel mg E N c env st σ H) (hk : c[k]? = some a) (r : RepL mg N c H vs' xs') :
    Rel mg E N c env (st.set k xs') σ (upd H a (.lst vs')) ∧ Sx N c H N c (upd H a (.lst vs')) := R.writeCO hk (.l r)
/-- a list of the frame's own is data from now on -/
def frz (i : Nat) (env : Env) : Env := match env[i]? with
  | some (.own xs) => env.set i (.val (.lst xs))
  | some (.ownD ks xs) => env.set i (.val (.dic ks xs))
  | _ => env
theorem Rel.frz {i : Nat} (R : Rel mg E N c env st σ H) : ∃ N', Rel mg E N' c (LW.frz i env) st σ H ∧ Sx N c H N' c H := by
  unfold LW.frz
  split
  · rename_i xs he
    obtain ⟨a, vs, es, ha, r⟩ := R.sl i _ he
    have es := join_some es
    obtain ⟨na, nc, n0⟩ := R.own i _ a he rfl es
    have less : ∀ b, (N b ∧ b ≠ a) → N b := fun b z => z.1
    have tr : Tr N c H (fun b => N b ∧ b ≠ a) c H := Tr.less less
    have il : i < env.length := (List.getElem?_eq_some_iff.mp he).1
    refine ⟨fun b => N b ∧ b ≠ a, ⟨by rw [List.length_set]; exact R.len, fun j s' e => ?_, fun j s' b e ho z => ?_, fun j k s1 s2 b e1 o1 e2 o2 h1 h2 => ?_, R.wd.less less fun b z => ⟨R.wd.cn b z, fun q => nc (q ▸ z)⟩, fun b z => ⟨R.n0 b z, fun q => R.t0 b z (by rw [q]; exact n0)⟩, R.t0, R.base, R.pre, R.newc, fun j cn ns ds b e z => (get_set e).elim (fun q => nomatch q.2) fun q => R.slf j cn ns ds b q.2 z⟩, ⟨fun _ _ e _ => e, fun b z => .inl z.1, fun _ _ z => z, fun _ z => .inl z, fun _ z => z, fun _ _ z => z⟩⟩
    · rcases get_set e with ⟨rfl, rfl⟩ | ⟨ne, e⟩
      · rw [es]
        exact ⟨.ref a, rfl, .lst ha (fun z => z.2 rfl) (r.tr tr)⟩
      · have q := R.sl j s' e
        cases s' with
        | un => trivial
        | val d => obtain ⟨v, ev, rv⟩ := q; exact ⟨v, ev, rv.tr tr⟩
        | own ys => obtain ⟨b, us', ev, hb', rv⟩ := q; exact ⟨b, us', ev, hb', rv.tr tr⟩
        | ownI cn ns ds => obtain ⟨b, C, dx, fs, ev, hc, hb', hn, rv⟩ := q; exact ⟨b, C, dx, fs, ev, hc, hb', hn, rv.tr tr⟩
        | ownD ks ds => obtain ⟨b, kvs, ev, hb', hn, rv⟩ := q; exact ⟨b, kvs, ev, hb', hn, rv.tr tr⟩
        | ownT ks ds => obtain ⟨b, kvs, ev, hb', hn, rv⟩ := q; exact ⟨b, kvs, ev, hb', hn, rv.tr tr⟩
    · rcases get_set e with ⟨rfl, rfl⟩ | ⟨ne, e⟩
      · cases ho
      · obtain ⟨z1, z2, z3⟩ := R.own j s' b e ho z
        refine ⟨⟨z1, fun q => ?_⟩, z2, z3⟩
        subst q
        exact ne (R.inj i j _ s' b he rfl e ho es z)
    · rcases get_set e1 with ⟨rfl, rfl⟩ | ⟨n1, e1⟩
      · cases o1
      · rcases get_set e2 with ⟨rfl, rfl⟩ | ⟨n2, e2⟩
        · cases o2
        · exact R.inj j k s1 s2 b e1 o1 e2 o2 h1 h2
  · rename_i ks xs he
    obtain ⟨a, kvs, es, ha, hm, r⟩ := R.sl i _ he
    have es := join_some es
    obtain ⟨na, nc, n0⟩ := R.own i _ a he rfl es
    have less : ∀ b, (N b ∧ b ≠ a) → N b := fun b z => z.1
    have tr : Tr N c H (fun b => N b ∧ b ≠ a) c H := Tr.less less
    have il : i < env.length := (List.getElem?_eq_some_iff.mp he).1
    refine ⟨fun b => N b ∧ b ≠ a, ⟨by rw [List.length_set]; exact R.len, fun j s' e => ?_, fun j s' b e ho z => ?_, fun j k s1 s2 b e1 o1 e2 o2 h1 h2 => ?_, R.wd.less less fun b z => ⟨R.wd.cn b z, fun q => nc (q ▸ z)⟩, fun b z => ⟨R.n0 b z, fun q => R.t0 b z (by rw [q]; exact n0)⟩, R.t0, R.base, R.pre, R.newc, fun j cn ns ds b e z => (get_set e).elim (fun q => nomatch q.2) fun q => R.slf j cn ns ds b q.2 z⟩, ⟨fun _ _ e _ => e, fun b z => .inl z.1, fun _ _ z => z, fun _ z => .inl z, fun _ z => z, fun _ _ z => z⟩⟩
    · rcases get_set e with ⟨rfl, rfl⟩ | ⟨ne, e⟩
      · rw [es]
        exact ⟨.ref a, rfl, .dic ha (fun z => z.2 rfl) hm (r.tr tr)⟩
      · have q := R.sl j s' e
        cases s' with
        | un => trivial
        | val d => obtain ⟨v, ev, rv⟩ := q; exact ⟨v, ev, rv.tr tr⟩
        | own ys => obtain ⟨b, us', ev, hb', rv⟩ := q; exact ⟨b, us', ev, hb', rv.tr tr⟩
        | ownI cn ns ds => obtain ⟨b, C, dx, fs, ev, hc, hb', hn, rv⟩ := q; exact ⟨b, C, dx, fs, ev, hc, hb', hn, rv.tr tr⟩
        | ownD ks ds => obtain ⟨b, kvs, ev, hb', hn, rv⟩ := q; exact ⟨b, kvs, ev, hb', hn, rv.tr tr⟩
        | ownT ks ds => obtain ⟨b, kvs, ev, hb', hn, rv⟩ := q; exact ⟨b, kvs, ev, hb', hn, rv.tr tr⟩
    · rcases get_set e with ⟨rfl, rfl⟩ | ⟨ne, e⟩
      · cases ho
      · obtain ⟨z1, z2, z3⟩ := R.own j s' b e ho z
        refine ⟨⟨z1, fun q => ?_⟩, z2, z3⟩
        subst q
        exact ne (R.inj i j _ s' b he rfl e ho es z)
    · rcases get_set e1 with ⟨rfl, rfl⟩ | ⟨n1, e1⟩
      · cases o1
      · rcases get_set e2 with ⟨rfl, rfl⟩ | ⟨n2, e2⟩
        · cases o2
        · exact R.inj j k s1 s2 b e1 o1 e2 o2 h1 h2
  · exact ⟨N, R, Sx.refl⟩
end
end LW

/-! LwI: statements by plain functions. -/
namespace LW
open PySem L2 PyProof.Rows

def PostS (mg : Glob) (E : En) (N : Prot) (c : List Addr) (H : Hp) (De : Ends) (o : Out) (st' : Sto) : Prop := match o with
  | .nx env' => ∀ N' c' σ' H', Sx N c H N' c' H' → Rel mg E N' c' env' st' σ' H' → De.nx σ' H'
  | .bk env' => ∀ N' c' σ' H', Sx N c H N' c' H' → Rel mg E N' c' env' st' σ' H' → De.bk σ' H'
  | .ct env' => ∀ N' c' σ' H', Sx N c H N' c' H' → Rel mg E N' c' env' st' σ' H' → De.ct σ' H'
  | .rt d => ∀ c' H' v, Fin mg E c' st' H' v d → De.rt v H'
theorem tS_def {mg : Glob} {f : SS} {De : Ends} {σ : L2.St} {H : Hp} : tS mg f De σ H ↔ ∃ (E : En) (N : Prot) (c : List Addr) (env : Env) (st : Sto) (o : Out) (st' : Sto), Rel mg E N c env st σ H ∧ f env st = some (o, st') ∧ PostS mg E N c H De o st' := Iff.rfl
section
variable {mg : Glob} {E : En} {N N' : Prot} {c c' : List Addr} {H H' : Hp} {De : Ends} {o : Out} {st st' : Sto} {env env' : Env} {σ : L2.St}
theorem PostS.from (x : Sx N c H N' c' H') (p : PostS mg E N c H De o st') : PostS mg E N' c' H' De o st' := by
  cases o with
  | nx e => exact fun N2 c2 σ2 H2 x2 R2 => p N2 c2 σ2 H2 (x.trans x2) R2
  | bk e => exact fun N2 c2 σ2 H2 x2 R2 => p N2 c2 σ2 H2 (x.trans x2) R2
  | ct e => exact fun N2 c2 σ2 H2 x2 R2 => p N2 c2 σ2 H2 (x.trans x2) R2
  | rt d => exact p
end
def sNil : SS := fun env st => some (.nx env, st)
def sSeq (f g : SS) : SS := fun env st => match f env st with
  | some (.nx e, s1) => g e s1
  | some (.rt d, s1) => some (.rt d, s1)
  | some (.bk e, s1) => some (.bk e, s1)
  | some (.ct e, s1) => some (.ct e, s1)
  | none => none
def sRet (f : SE) : SS := fun env st => match f env st with
  | some (d, s1) => some (.rt d, s1)
  | none => none
def sDrop (f : SE) : SS := fun env st => match f env st with
  | some (_, s1) => some (.nx env, s1)
  | none => none
def sSet (i : Nat) (f : SE) : SS := fun env st => match f env st with
  | some (d, s1) => some (.nx (env.set i (.val d)), s1)
  | none => none
def sOwn (i : Nat) (f : Fx (List D)) : SS := fun env st => match f env st with
  | some (xs, s1) => some (.nx (env.set i (.own xs)), s1)
  | none => none
def sIf (t : SB) (f g : SS) : SS := fun env st => match t env st with
  | some (true, s1) => f env s1
  | some (false, s1) => g env s1
  | none => none
/-- ahead of the rest a list of the frame's own becomes data -/
def sFrz (i : Nat) (f : SS) : SS := fun env st => f (frz i env) st
section
variable {mg : Glob} {X : Cx} {s : Stmt} {rest : List Stmt} {e : Expr} {pos : Pos} {f g : SS} {fe : SE} {fl : Fx (List D)} {t : SB}
theorem s_nil : PSs X [] (tS mg sNil) := pss_weak pss_nil fun De σ H h => by
  obtain ⟨E, N, c, env, st, o, st', R, q, p⟩ := tS_def.mp h
  cases q
  exact p N c σ H Sx.refl R
theorem s_cons (h1 : PS X s (tS mg f)) (h2 : PSs X rest (tS mg g)) : PSs X (s :: rest) (tS mg (sSeq f g)) := pss_weak (pss_cons h1 h2) fun De σ H h => by
  obtain ⟨E, N, c, env, st, o, st', R, q, p⟩ := tS_def.mp h
  unfold sSeq at q
  split at q
  · rename_i e1 s1 q1
    refine tS_def.mpr ⟨E, N, c, env, st, .nx e1, s1, R, q1, fun N1 c1 σ1 H1 x1 R1 => ?_⟩
    exact tS_def.mpr ⟨E, N1, c1, e1, s1, o, st', R1, q, p.from x1⟩
  · rename_i d s1 q1
    cases q
    exact tS_def.mpr ⟨E, N, c, env, st, _, _, R, q1, p⟩
  · rename_i d s1 q1
    cases q
    exact tS_def.mpr ⟨E, N, c, env, st, _, _, R, q1, p⟩
  · rename_i d s1 q1
    cases q
    exact tS_def.mpr ⟨E, N, c, env, st, _, _, R, q1, p⟩
  · cases q
theorem s_one (h1 : PS X s (tS mg f)) : PSs X [s] (tS mg f) := pss_one h1
/-- code that is never come to: none -/
def sNever : SS := fun _ _ => none
theorem s_never : PS X s (tS mg sNever) := ps_weak ps_never fun De σ H h => by
  obtain ⟨E, N, c, env, st, o, st', R, q, p⟩ := tS_def.mp h
  cases q
theorem s_ret (he : PE X e (tE mg fe)) : PS X (.Return (some e) pos) (tS mg (sRet fe)) := ps_weak (ps_ret he) fun De σ H h => by
  obtain ⟨E, N, c, env, st, o, st', R, q, p⟩ := tS_def.mp h
  unfold sRet at q
  split at q
  · rename_i d s1 q1
    cases q
    exact ⟨E, N, c, env, st, _, _, R, q1, fun v N' c' H' x W r => p c' H' v ((R.ex x W).fin r)⟩
  · cases q
theorem s_drop (he : PE X e (tP mg fe)) (hs : swapsWith e none pos.line X.env = pure false := by rfl) : PS X (.Expr e pos) (tS mg (sDrop fe)) := ps_weak (ps_expr he hs) fun De σ H h => by
  obtain ⟨E, N, c, env, st, o, st', R, q, p⟩ := tS_def.mp h
  unfold sDrop at q
  split at q
  · rename_i d s1 q1
    cases q
    exact ⟨E, N, c, env, st, _, _, R, q1, fun v N' c' H' x W r => p N' c' σ H' (x.sx R.wd W) (R.ex x W)⟩
  · cases q
theorem s_set {i : Nat} {x : Str} {pos' : Pos} (hN : X.N.Nodup) (he : PE X e (tE mg fe)) (hi : X.N[i]? = some x := by rfl) (hx : Loc X.env.scope x := by first | exact Or.inl rfl | exact Or.inr rfl) (hs : swapsWith e (some (.Name x pos')) pos.line X.env = pure false := by rfl) (hf : X.fn x = true ∨ X.env.scope.names.lookup x = some .local := by first | exact .inl rfl | exact .inr rfl) :
    PS X (.Assign [.Name x pos'] e pos) (tS mg (sSet i fe)) := ps_weak (ps_set hN hi hx he hs hf) fun De σ H h => by
  obtain ⟨E, N, c, env, st, o, st', R, q, p⟩ := tS_def.mp h
  unfold sSet at q
  split at q
  · rename_i d s1 q1
    cases q
    exact ⟨E, N, c, env, st, _, _, R, q1, fun v N' c' H' x W r => p N' c' _ H' (x.sx R.wd W) ((R.ex x W).set rfl ⟨v, rfl, r⟩)⟩
  · cases q
/-- name = a new list of the frame's own -/
theorem r_own {i : Nat} {De : Ends} {σ : L2.St} {H : Hp} (h : tS mg (sOwn i fl) De σ H) : tAsg (tL mg fl) (gName i) De σ H := by
  obtain ⟨E, N, c, env, st, o, st', R, q, p⟩ := tS_def.mp h
  unfold sOwn at q
  split at q
  · rename_i xs s1 q1
    cases q
    refine ⟨E, N, c, env, st, _, _, R, q1, fun v N' c' H' x W r => ?_⟩
    obtain ⟨a, vs, rfl, hn, na, nc, ha, rr⟩ := r
    exact p N' c' _ H' (x.sx R.wd W) ((R.ex x W).setOwn ha na nc (R.fresh0 hn) rr (R.notOwn hn))
  · cases q
theorem s_own {i : Nat} {x : Str} {pos' : Pos} (hN : X.N.Nodup) (he : PE X e (tL mg fl)) (hi : X.N[i]? = some x := by rfl) (hx : Loc X.env.scope x := by first | exact Or.inl rfl | exact Or.inr rfl) (hs : swapsWith e (some (.Name x pos')) pos.line X.env = pure false := by rfl) (hf : X.fn x = true ∨ X.env.scope.names.lookup x = some .local := by first | exact .inl rfl | exact .inr rfl) :
    PS X (.Assign [.Name x pos'] e pos) (tS mg (sOwn i fl)) := ps_weak (ps_set hN hi hx he hs hf) fun De σ H h => r_own h
theorem s_if {c : Expr} {a b : List Stmt} (hc : PT X c (tT mg t)) (ha : PSs X a (tS mg f)) (hb : PSs X b (tS mg g)) : PS X (.If c a b pos) (tS mg (sIf t f g)) := ps_weak (ps_if hc ha hb) fun De σ H h => by
  obtain ⟨E, N, c, env, st, o, st', R, q, p⟩ := tS_def.mp h
  unfold sIf at q
  split at q
  · rename_i s1 q1
    exact ⟨E, N, c, env, st, true, s1, R, q1, fun N1 c1 H1 x1 W1 => iteT (tS_def.mpr ⟨E, N1, c1, env, s1, o, st', R.ex x1 W1, q, p.from (x1.sx R.wd W1)⟩)⟩
  · rename_i s1 q1
    exact ⟨E, N, c, env, st, false, s1, R, q1, fun N1 c1 H1 x1 W1 => iteF (tS_def.mpr ⟨E, N1, c1, env, s1, o, st', R.ex x1 W1, q, p.from (x1.sx R.wd W1)⟩)⟩
  · cases q
theorem r_frz {i : Nat} {De : Ends} {σ : L2.St} {H : Hp} (h : tS mg (sFrz i f) De σ H) : tS mg f De σ H := by
  obtain ⟨E, N, c, env, st, o, st', R, q, p⟩ := tS_def.mp h
  obtain ⟨N', R', x⟩ := R.frz (i := i)
  exact tS_def.mpr ⟨E, N', c, frz i env, st, o, st', R', q, p.from x⟩
theorem s_frz (i : Nat) (h : PS X s (tS mg f)) : PS X s (tS mg (sFrz i f)) := ps_weak h fun _ _ _ z => r_frz z
end

/-! ### lists of the frame's own and cells, changed -/
def sApp (i : Nat) (f : SE) : SS := fun env st => match f env st with
  | some (d, s1) => match env[i]? with
    | some (.own xs) => if xs.length < 1000000 then some (.nx (env.set i (.own (xs ++ [d]))), s1) else none
    | _ => none
  | none => none
def sAppC (fo f : SE) : SS := fun env st => match fo env st with
  | some (.cell k, s1) => match lcG s1 k with
    | some _ => match f env s1 with
      | some (d, s2) => match lcG s2 k with
        | some xs => if xs.length < 1000000 then some (.nx env, s2.set k (xs ++ [d])) else none
        | none => none
      | none => none
    | none => none
  | _ => none
/-- x[j] = e -/
def sPut (i : Nat) (fj fe : SE) : SS := fun env st => match fe env st with
  | some (d, s1) => match fj env s1 with
    | some (.int j, s2) => match env[i]? with
      | some (.own xs) => match ixN xs.length j with
        | some n => some (.nx (env.set i (.own (xs.set n d))), s2)
        | none => none
      | _ => none
    | _ => none
  | none => none
def sPutC (fo fj fe : SE) : SS := fun env st => match fe env st with
  | some (d, s1) => match fo env s1 with
    | some (.cell k, s2) => match fj env s2 with
      | some (.int j, s3) => match lcG s3 k with
        | some xs => match ixN xs.length j with
          | some n => some (.nx env, s3.set k (xs.set n d))
          | none => none
        | none => none
      | _ => none
    | _ => none
  | none => none
theorem sz7 {n : Nat} (h : n < 1000000) : n < sizeLine := Nat.lt_trans h (by decide)
section
variable {mg : Glob} {X : Cx} {e o ej : Expr} {pos apos cpos tpos : Pos} {fe fo fj : SE}
theorem s_app {i : Nat} {x : Str} {p1 : Pos} (he : PE X e (tE mg fe)) (hN : X.N[i]? = some x := by rfl) (hv : Vis X.env.scope x := by first | exact Or.inl rfl | exact Or.inr (Or.inl rfl) | exact Or.inr (Or.inr rfl)) (hd : (x == ("__debug__" : Str)) = false := by decide)
    (hcd : (x == ("__classdict__" : Str)) = false := by decide) (hs : swapsWith (.Call (.Attribute (.Name x p1) "append" apos) [e] [] cpos) none pos.line X.env = pure false := by rfl)
    (hbase : attributeBase (.Name x p1) "append" X.env (eval (.Name x p1) X.env) = eval (.Name x p1) X.env := by rfl)
    (hfew : ((backTo cpos (starEach [e] X.env)).all (fun x => !x.1) && (backToKw cpos (keywordEach [] X.env)).all (fun x => x.1.isSome)
      && decide ([e].length + ([] : List Keyword).length + (if ([] : List Keyword).isEmpty then 0 else 1) < 30)) = true := by rfl)
    (hline : (apos.endLine == cpos.line) = true := by rfl) (hst : starEach [e] X.env = (false, eval e X.env) :: starEach [] X.env := by rfl) (hplain : (backTo cpos (starEach [] X.env)).any (·.1) = false := by rfl) :
    PS X (.Expr (.Call (.Attribute (.Name x p1) "append" apos) [e] [] cpos) pos) (tS mg (sApp i fe)) :=
  ps_weak (ps_expr (pe_bm PySem.F.plainAttrs_list PySem.F.slot_list_append PySem.F.type_list_append mt_append (pe_var hN hv hd hcd) (pa_cons he pa_nil hst) hbase hfew hline hst hplain) hs) fun De σ H h => by
    obtain ⟨E, N, c, env, st, o, st', R, q, p⟩ := tS_def.mp h
    unfold sApp at q
    split at q
    · rename_i d s1 q1
      split at q
      · rename_i xs hx
        split at q
        · rename_i hl
          cases q
          obtain ⟨a, vs, ea, ha, rr⟩ := R.sl i _ hx
          have ea := join_some ea
          refine ⟨.ref a, ea, .inl ⟨rfl, vs, SqL.of ha⟩, E, N, c, env, st, d, _, R, q1, fun v N1 c1 H1 x1 W1 r1 => ?_⟩
          have R1 := R.ex x1 W1
          obtain ⟨b, us, eb, hb, r2⟩ := R1.sl i _ hx
          rw [ea] at eb
          cases eb
          have wr := R1.write (vs := us) hx ea (r2.append (.cons r1 .nil))
          exact ⟨a, us, v, rfl, rfl, hb, by rw [r2.length]; exact sz7 hl, p N1 c1 σ _ ((x1.sx R.wd W1).trans wr.2) wr.1⟩
        · cases q
      · cases q
    · cases q
theorem s_putC (he : PE X e (tE mg fe)) (ho : PE X o (tE mg fo)) (hj : PE X ej (tP mg fj)) (ha : ∀ v, assign (.Subscript o ej tpos) X.env v = (do
      let ov ← holding [v] (eval o X.env)
      let iv ← holding [v, ov] (eval ej X.env)
      standAt tpos
      holding [v, ov, iv] (setItem ov iv v)
      release [v, ov, iv] []) := by intro _; rfl) (hs : swapsWithSole [.Subscript o ej tpos] e pos.line X.env = pure false := by rfl) (hw : swappedStores [.Subscript o ej tpos] e X.env = pure none := by rfl)
    (h1 : (assignEach [.Subscript o ej tpos] X.env).map (·.2) = [assign (.Subscript o ej tpos) X.env] := by rfl) : PS X (.Assign [.Subscript o ej tpos] e pos) (tS mg (sPutC fo fj fe)) :=
  ps_weak (ps_asg he (pg_sub ho hj set_list ha) hs hw h1) fun De σ H h => by
    obtain ⟨E, N, c, env, st, o, st', R, q, p⟩ := tS_def.mp h
    unfold sPutC at q
    split at q
    · rename_i d s1 q1
      split at q
      · rename_i k s2 q2
        split at q
        · rename_i j s3 q3
          split at q
          · rename_i xs hx
            split at q
            · rename_i n hn
              cases q
              refine ⟨E, N, c, env, st, d, s1, R, q1, fun v N1 c1 H1 x1 W1 r1 => ?_⟩
              refine ⟨E, N1, c1, env, s1, _, s2, R.ex x1 W1, q2, fun w N2 c2 H2 x2 W2 r2 => ?_⟩
              have x12 := x1.trans x2 R.wd
              cases r2 with
              | cell hk =>
                rename_i a
                refine ⟨E, N2, c2, env, s2, _, s3, R.ex x12 W2, q3, fun z N3 c3 H3 x3 W3 r3 => ?_⟩
                have x13 := x12.trans x3 R.wd
                have R3 := R.ex x13 W3
                have hk3 := x3.pre k a hk
                obtain ⟨us, hb, r4⟩ := W3.lstC hk3 hx
                have rv : Rep mg N3 c3 H3 v d := Rep.tr (x3.tr W2) (Rep.tr (x2.tr W1) r1)
                have wr := R3.writeC hk3 (r4.set rv n)
                exact ⟨a, us, j, n, rfl, r3.int, hb, by rw [r4.length]; exact hn, p N3 c3 σ _ ((x13.sx R.wd W3).trans wr.2) wr.1⟩
            · cases q
          · cases q
        · cases q
      · cases q
    · cases q
end

/-! ### several targets -/
def gNames : List Nat → TGs
  | [] => gNil
  | i :: r => gCons (gName i) (gNames r)
def setAll : List Nat → List D → Env → Option Env
  | [], [], env => some env
  | i :: is, d :: ds, env => setAll is ds (env.set i (.val d))
  | _, _, _ => none
section
variable {mg : Glob} {X : Cx} {e : Expr} {es : List Expr} {pos : Pos} {fe : SE}
theorem g_nil : PGs X [] (gNames []) := pgs_nil
theorem g_cons {i : Nat} {is : List Nat} {x : Str} {p1 : Pos} (hN : X.N.Nodup) (h2 : PGs X es (gNames is)) (hi : X.N[i]? = some x := by rfl) (hx : Loc X.env.scope x := by first | exact Or.inl rfl | exact Or.inr rfl) (hf : X.fn x = true ∨ X.env.scope.names.lookup x = some .local := by first | exact .inl rfl | exact .inr rfl)
    (hs : (assignEach (.Name x p1 :: es) X.env).map (·.2) = assign (.Name x p1) X.env :: (assignEach es X.env).map (·.2) := by rfl) : PGs X (.Name x p1 :: es) (gNames (i :: is)) := pgs_cons (pg_name hN hi hx hf) h2 hs
theorem r_names {E : En} {N : Prot} {c : List Addr} {H : Hp} {st : Sto} {Q : L2.St → Hp → Prop} : ∀ {is : List Nat} {ds : List D} {vs : List V} {env env' : Env} {σ : L2.St}, Rel mg E N c env st σ H → RepL mg N c H vs ds → setAll is ds env = some env' → (∀ σ', Rel mg E N c env' st σ' H → Q σ' H) → gNames is vs σ H Q
  | [], [], _, _, _, σ, R, .nil, e, k => by
    cases e
    exact ⟨rfl, k σ R⟩
  | [], _ :: _, _, _, _, _, _, _, e, _ => by cases e
  | _ :: _, [], _, _, _, _, _, _, e, _ => by cases e
  | i :: is, d :: ds, _, env, env', σ, R, .cons h t, e, k => by
    refine ⟨_, _, rfl, ?_⟩
    exact r_names (R.set (s := .val d) rfl ⟨_, rfl, h⟩) t e k
theorem setAll_len : ∀ {is : List Nat} {ds : List D} {env env' : Env}, setAll is ds env = some env' → ds.length = is.length
  | [], [], _, _, _ => rfl
  | [], _ :: _, _, _, e => by cases e
  | _ :: _, [], _, _, e => by cases e
  | i :: is, d :: ds, env, env', e => by rw [List.length_cons, List.length_cons, setAll_len (show setAll is ds (env.set i (.val d)) = some env' from e)]
/-- (a, b, ..) = e -/
def sUnp (is : List Nat) (f : SE) : SS := fun env st => match f env st with
  | some (.tup ds, s1) => match setAll is ds env with
    | some env' => some (.nx env', s1)
    | none => none
  | _ => none
theorem s_unp {is : List Nat} {k : Nat} {tpos : Pos} (hc : X.calm = true) (he : PE X e (tE mg fe)) (hg : PGs X es (gNames is)) (hn : (assignEach es X.env).length = is.length := by rfl) (hst : (assignEach es X.env).findIdx? (·.1) = none := by rfl)
    (hs : swapsWithSole [.Tuple es k tpos] e pos.line X.env = pure false := by rfl) (hw : swappedStores [.Tuple es k tpos] e X.env = pure none := by rfl) (h1 : (assignEach [.Tuple es k tpos] X.env).map (·.2) = [assign (.Tuple es k tpos) X.env] := by rfl) :
    PS X (.Assign [.Tuple es k tpos] e pos) (tS mg (sUnp is fe)) := ps_weak (ps_asg he (pg_tup hc hg hn hst) hs hw h1) fun De σ H h => by
  obtain ⟨E, N, c, env, st, o, st', R, q, p⟩ := tS_def.mp h
  unfold sUnp at q
  split at q
  · rename_i ds s1 q1
    split at q
    · rename_i env' hs
      cases q
      refine ⟨E, N, c, env, st, _, _, R, q1, fun v N1 c1 H1 x1 W1 r1 => ?_⟩
      obtain ⟨a, vs, rfl, ha, rr⟩ := RepT.tup (.inl r1)
      refine ⟨a, vs, rfl, SqT.of ha, by rw [rr.length]; exact setAll_len hs, r_names (R.ex x1 W1) rr hs fun σ' R' => p N1 c1 σ' H1 (x1.sx R.wd W1) R'⟩
    · cases q
  · cases q
end
end LW

/-! LwJ: what is walked; for; list comprehensions. -/
namespace LW
open PySem L2 PyProof.Rows

/-- what is walked: the items, and what must stay true of the cells meanwhile -/
abbrev Src := List D × (Sto → Bool)
def noChk : Sto → Bool := fun _ => true
/-- the iterator J yields the items xs, from a state on, as long as what is not protected stays -/
structure ItL (mg : Glob) (J : It) (xs : Src) (N1 : Prot) (c1 : List Addr) (H1 : Hp) : Prop where
  stop : ∀ N c H st, Sx N1 c1 H1 N c H → Wd mg N c H st → xs.2 st = true → J.stop xs.1.length H
  go : ∀ (i : Nat) N c H st, i < xs.1.length → Sx N1 c1 H1 N c H → Wd mg N c H st → xs.2 st = true → J.go i H
  yld : ∀ (i : Nat) N c H st x H', i < xs.1.length → Sx N1 c1 H1 N c H → Wd mg N c H st → xs.2 st = true → J.yld i H x H' → ∃ d, xs.1[i]? = some d ∧ Ex N c H N c H' ∧ Wd mg N c H' st ∧ Rep mg N c H' x d
def tI (mg : Glob) (f : Fx Src) : TI := fun σ H R => ∃ (E : En) (N : Prot) (c : List Addr) (env : Env) (st : Sto) (xs : Src) (st' : Sto), Rel mg E N c env st σ H ∧ f env st = some (xs, st') ∧
  ∀ J N' c' H', Ex N c H N' c' H' → Wd mg N' c' H' st' → ItL mg J xs N' c' H' → R J H'
/-- a target: asg sets the slots is -/
def Dif (is : List Nat) (σ σ' : L2.St) : Prop := ∀ vs : List Nat, (∀ i ∈ is, i ∈ vs) → wipe σ' vs = wipe σ vs
def GOk (mg : Glob) (g : TG) (asg : D → Env → Option Env) (is : List Nat) : Prop := ∀ (E : En) (N : Prot) (c : List Addr) (env env' : Env) (st : Sto) (σ : L2.St) (H : Hp) (v : V) (d : D) (Q : L2.St → Hp → Prop), Rel mg E N c env st σ H → Rep mg N c H v d → asg d env = some env' →
  (∀ σ', Rel mg E N c env' st σ' H → Dif is σ σ' → Q σ' H) → g v σ H Q
def asgN (i : Nat) : D → Env → Option Env := fun d env => some (env.set i (.val d))
def asgT (is : List Nat) : D → Env → Option Env := fun d env => match d with
  | .tup ds => setAll is ds env
  | _ => none
section
variable {mg : Glob}
theorem wipe_set : ∀ {vs : List Nat} {σ : L2.St} {i : Nat} {y : Option V}, i ∈ vs → wipe (σ.set i y) vs = wipe σ vs
  | [], _, _, _, h => by cases h
  | v :: vs, σ, i, y, h => by
    unfold wipe
    by_cases e : i ∈ vs
    · rw [wipe_set e]
    · have ev : i = v := (List.mem_cons.mp h).elim (fun z => z) fun z => absurd z e
      subst ev
      have : ∀ (us : List Nat), i ∉ us → wipe (σ.set i y) us = (wipe σ us).set i y := by
        intro us
        induction us with
        | nil => intro _; rfl
        | cons u us ih =>
          intro hu
          rw [List.mem_cons, not_or] at hu
          unfold wipe
          rw [ih hu.2, List.set_comm _ _ hu.1]
      rw [this vs e, List.set_set]
theorem gok_name (i : Nat) : GOk mg (gName i) (asgN i) [i] := by
  intro E N c env env' st σ H v d Q R r e k
  cases e
  exact k _ (R.set (s := .val d) rfl ⟨v, rfl, r⟩) fun vs h => wipe_set (h i (by simp))
theorem dif_refl {is : List Nat} {σ : L2.St} : Dif is σ σ := fun _ _ => rfl
theorem r_namesD {E : En} {N : Prot} {c : List Addr} {H : Hp} {st : Sto} {Q : L2.St → Hp → Prop} : ∀ {is : List Nat} {ds : List D} {vs : List V} {env env' : Env} {σ : L2.St}, Rel mg E N c env st σ H → RepL mg N c H vs ds → setAll is ds env = some env' → (∀ σ', Rel mg E N c env' st σ' H → Dif is σ σ' → Q σ' H) → gNames is vs σ H Q
  | [], [], _, _, _, σ, R, .nil, e, k => by
    cases e
    exact ⟨rfl, k σ R dif_refl⟩
  | [], _ :: _, _, _, _, _, _, _, e, _ => by cases e
  | _ :: _, [], _, _, _, _, _, _, e, _ => by cases e
  | i :: is, d :: ds, _, env, env', σ, R, .cons h t, e, k => by
    refine ⟨_, _, rfl, ?_⟩
    refine r_namesD (R.set (s := .val d) rfl ⟨_, rfl, h⟩) t e fun σ' R' df => k σ' R' fun vs hv => ?_
    rw [df vs fun j hj => hv j (List.mem_cons_of_mem _ hj)]
    exact wipe_set (hv i List.mem_cons_self)
theorem gok_tup {K : PySem.W.Frag} (is : List Nat) (n : Nat) (hn : n = is.length) : GOk mg (gTup K n (gNames is)) (asgT is) is := by
  intro E N c env env' st σ H v d Q R r e k
  unfold asgT at e
  split at e
  · obtain ⟨a, vs, rfl, ha, rr⟩ := RepT.tup (.inl r)
    exact ⟨a, vs, rfl, SqT.of ha, by rw [rr.length, hn]; exact setAll_len e, r_namesD R rr e k⟩
  · cases e
end

/-! ### for -/
def loopM (chk : Sto → Bool) (asg : D → Env → Option Env) (body : SS) : List D → Env → Sto → Option (Out × Sto)
  | [], env, st => if chk st = true then some (.nx env, st) else none
  | d :: ds, env, st => if chk st = true then (match asg d env with
    | none => none
    | some e1 => match body e1 st with
      | some (.nx e2, s2) => loopM chk asg body ds e2 s2
      | some (.ct e2, s2) => loopM chk asg body ds e2 s2
      | some (.bk e2, s2) => some (.nx e2, s2)
      | some (.rt d, s2) => some (.rt d, s2)
      | none => none) else none
def sFor (fi : Fx Src) (asg : D → Env → Option Env) (body : SS) : SS := fun env st => match fi env st with
  | none => none
  | some (xs, s1) => loopM xs.2 asg body xs.1 env s1
section
variable {mg : Glob} {X : Cx} {tg iter : Expr} {body : List Stmt} {pos : Pos} {fi : Fx Src} {asg : D → Env → Option Env} {fb : SS} {g : TG} {is : List Nat}
theorem r_for (hg : GOk mg g asg is) {De : Ends} {σ : L2.St} {H : Hp} (h : tS mg (sFor fi asg fb) De σ H) : tFor (tI mg fi) g (tS mg fb) De σ H := by
  obtain ⟨E, N, c, env, st, o, st', R, q, p⟩ := tS_def.mp h
  unfold sFor at q
  split at q
  · cases q
  · rename_i src s1 q1
    obtain ⟨xs, chk⟩ := src
    refine ⟨E, N, c, env, st, (xs, chk), s1, R, q1, fun J N1 c1 H1 x1 W1 il => ?_⟩
    have R1 := R.ex x1 W1
    have sx1 := x1.sx R.wd W1
    refine ⟨fun i m σ' H' => m = xs.length - i ∧ i ≤ xs.length ∧ ∃ N' c' env' st2, Sx N1 c1 H1 N' c' H' ∧ Rel mg E N' c' env' st2 σ' H' ∧ loopM chk asg fb (xs.drop i) env' st2 = some (o, st'),
      ⟨xs.length, by omega, Nat.zero_le _, N1, c1, env, s1, Sx.refl, R1, by rw [List.drop_zero]; exact q⟩, ?_⟩
    rintro i m σ' H' ⟨rfl, hi, N', c', env', st2, sx, R', ql⟩
    by_cases hlt : i < xs.length
    · have ed : xs.drop i = xs[i] :: xs.drop (i + 1) := List.drop_eq_getElem_cons hlt
      rw [ed] at ql
      unfold loopM at ql
      split at ql
      · rename_i hck
        refine .inr ⟨il.go i N' c' H' st2 hlt sx R'.wd hck, fun σ3 H3 => ∃ N3 c3 env3 st3, Sx N1 c1 H1 N3 c3 H3 ∧ Rel mg E N3 c3 env3 st3 σ3 H3 ∧ loopM chk asg fb (xs.drop (i + 1)) env3 st3 = some (o, st'), fun σ3 H3 z => ?_, fun x H2 y => ?_⟩
        · exact ⟨xs.length - (i + 1), by omega, rfl, hlt, z⟩
        · obtain ⟨d, hd, x2, W2, r2⟩ := il.yld i N' c' H' st2 x H2 hlt sx R'.wd hck y
          have ed2 : xs[i] = d := by
            obtain ⟨_, e⟩ := List.getElem?_eq_some_iff.mp hd
            exact e
          rw [ed2] at ql
          split at ql
          · cases ql
          · rename_i e1 ha
            have R2 := R'.ex x2 W2
            have sx2 := sx.trans (x2.sx R'.wd W2)
            refine hg E N' c' env' e1 st2 σ' H2 x d _ R2 r2 ha fun σ4 R4 _ => ?_
            split at ql
            · rename_i e2 s2 qb
              exact tS_def.mpr ⟨E, N', c', e1, st2, .nx e2, s2, R4, qb, fun N5 c5 σ5 H5 x5 R5 => ⟨N5, c5, e2, s2, sx2.trans x5, R5, ql⟩⟩
            · rename_i e2 s2 qb
              exact tS_def.mpr ⟨E, N', c', e1, st2, .ct e2, s2, R4, qb, fun N5 c5 σ5 H5 x5 R5 => ⟨N5, c5, e2, s2, sx2.trans x5, R5, ql⟩⟩
            · rename_i e2 s2 qb
              cases ql
              exact tS_def.mpr ⟨E, N', c', e1, st2, .bk e2, _, R4, qb, fun N5 c5 σ5 H5 x5 R5 => p N5 c5 σ5 H5 (sx1.trans (sx2.trans x5)) R5⟩
            · rename_i d2 s2 qb
              cases ql
              exact tS_def.mpr ⟨E, N', c', e1, st2, .rt d2, _, R4, qb, p⟩
            · cases ql
      · cases ql
    · have e : i = xs.length := by omega
      subst e
      rw [List.drop_length] at ql
      unfold loopM at ql
      split at ql
      · rename_i hck
        cases ql
        exact .inl ⟨il.stop N' c' H' _ sx R'.wd hck, p N' c' σ' H' (sx1.trans sx) R'⟩
      · cases ql
theorem s_for (hp : PassesOwn (model X.prog X.w) X.A X.env X.xe) (hc : X.calm = true) (hi : PI X tg iter (tI mg fi)) (hgg : PG X tg g) (hg : GOk mg g asg is) (hb : PSs X body (tS mg fb)) (hs : ∀ x, foldedSetIterable iter X.env x = pure x := by intro _; rfl) :
    PS X (.For tg iter body [] pos) (tS mg (sFor fi asg fb)) := ps_weak (ps_for hp hc hi hgg hb hs) fun De σ H h => r_for hg h
/-- the targets: one name; several -/
theorem t_name {i : Nat} {x : Str} {p1 : Pos} (hN : X.N.Nodup) (hi : X.N[i]? = some x := by rfl) (hx : Loc X.env.scope x := by first | exact Or.inl rfl | exact Or.inr rfl) (hf : X.fn x = true ∨ X.env.scope.names.lookup x = some .local := by first | exact .inl rfl | exact .inr rfl) : PG X (.Name x p1) (gName i) := pg_name hN hi hx hf
theorem t_tup {es : List Expr} {k : Nat} {tpos : Pos} (hc : X.calm = true) (h : PGs X es (gNames is)) {n : Nat} (hn : (assignEach es X.env).length = n := by rfl) (hst : (assignEach es X.env).findIdx? (·.1) = none := by rfl) : PG X (.Tuple es k tpos) (gTup X.K n (gNames is)) := pg_tup hc h hn hst
end

/-! ### sources -/
def iSeq (f : SE) : Fx Src := fun env st => match f env st with
  | some (.lst xs, s1) => some ((xs, noChk), s1)
  | some (.tup xs, s1) => some ((xs, noChk), s1)
  | some (.cell k, s1) => match lstI s1 (.cell k) with
    | some ns => some ((ns.map D.int, fun st => decide (lstI st (.cell k) = some ns)), s1)
    | none => none
  | _ => none
theorem pi_or {X : Cx} {tg it : Expr} {t t' : TI} (h : PI X tg it t) (h' : PI X tg it t') : PI X tg it (fun σ H R => t σ H R ∨ t' σ H R) := ⟨fun pins s σ H R I q => q.elim (h.run pins s σ H R I) (h'.run pins s σ H R I)⟩
section
variable {mg : Glob} {N : Prot} {c : List Addr} {H : Hp} {K : PySem.W.Frag}
theorem il_list {a : Addr} {vs : List V} {xs : List D} (ha : H a = some (.lst vs)) (n : ¬ N a) (r : RepL mg N c H vs xs) : ItL mg (Itl K a) (xs, noChk) N c H where
  stop := fun N' c' H' st sx _ _ => ⟨vs, SqL.of (sx.keep a _ ha n), by rw [r.length]; exact Nat.le_refl _⟩
  go := fun i N' c' H' st hi sx _ _ => by
    obtain ⟨v, hv, _⟩ := r.get (List.getElem?_eq_getElem hi)
    exact ⟨vs, v, SqL.of (sx.keep a _ ha n), hv⟩
  yld := fun i N' c' H' st x H2 hi sx W _ y => by
    obtain ⟨rfl, hy⟩ := y
    obtain ⟨v, hv, rv⟩ := r.get (List.getElem?_eq_getElem hi)
    have e := hy vs (SqL.of (sx.keep a _ ha n))
    rw [hv] at e
    cases e
    exact ⟨xs[i], List.getElem?_eq_getElem hi, Ex.refl, W, rv.tr sx.tr⟩
theorem il_tup {a : Addr} {vs : List V} {xs : List D} (ha : H a = some (.tup vs)) (r : RepL mg N c H vs xs) : ItL mg (Itt K a) (xs, noChk) N c H where
  stop := fun N' c' H' st sx _ _ => ⟨vs, SqT.of (sx.tup a _ ha), by rw [r.length]; exact Nat.le_refl _⟩
  go := fun i N' c' H' st hi sx _ _ => by
    obtain ⟨v, hv, _⟩ := r.get (List.getElem?_eq_getElem hi)
    exact ⟨vs, v, SqT.of (sx.tup a _ ha), hv⟩
  yld := fun i N' c' H' st x H2 hi sx W _ y => by
    obtain ⟨rfl, hy⟩ := y
    obtain ⟨v, hv, rv⟩ := r.get (List.getElem?_eq_getElem hi)
    have e := hy vs (SqT.of (sx.tup a _ ha))
    rw [hv] at e
    cases e
    exact ⟨xs[i], List.getElem?_eq_getElem hi, Ex.refl, W, rv.tr sx.tr⟩
/-- a cell that holds whole numbers, as long as it holds the same -/
theorem il_cell {k : Nat} {a : Addr} {ns : List Int} (hk : c[k]? = some a) : ItL mg (Itl K a) (ns.map D.int, fun st => decide (lstI st (.cell k) = some ns)) N c H := by
  have look : ∀ N' c' H' (st : Sto), Sx N c H N' c' H' → Wd mg N' c' H' st → decide (lstI st (.cell k) = some ns) = true → H' a = some (.lst (ns.map V.int)) := fun N' c' H' st sx W e => by
    have e : (match lcG st k with | some xs => intsOf xs | none => none) = some ns := of_decide_eq_true e
    cases hs : lcG st k with
    | none => rw [hs] at e; cases e
    | some xs =>
      rw [hs] at e
      obtain ⟨vs, ha, r⟩ := W.lstC (sx.pre k a hk) hs
      rw [intsOf_eq e] at r
      rw [r.of_ints] at ha
      exact ha
  refine ⟨fun N' c' H' st sx W e => ⟨_, SqL.of (look N' c' H' st sx W e), by rw [List.length_map, List.length_map]; exact Nat.le_refl _⟩, fun i N' c' H' st hi sx W e => ?_, fun i N' c' H' st x H2 hi sx W e y => ?_⟩
  · rw [List.length_map] at hi
    exact ⟨_, .int ns[i], SqL.of (look N' c' H' st sx W e), by rw [List.getElem?_map, List.getElem?_eq_getElem hi]; rfl⟩
  · rw [List.length_map] at hi
    obtain ⟨rfl, hy⟩ := y
    have e2 := hy _ (SqL.of (look N' c' _ st sx W e))
    rw [List.getElem?_map, List.getElem?_eq_getElem hi] at e2
    cases e2
    exact ⟨.int ns[i], by rw [List.getElem?_map, List.getElem?_eq_getElem hi]; rfl, Ex.refl, W, .int _⟩
/-- a, a + c, a + 2 c .. -/
def rangeD (a s : Int) (n : Nat) : List D := (List.range n).map fun (i : Nat) => .int (a + (i : Int) * s)
theorem rangeD_len {a s : Int} {n : Nat} : (rangeD a s n).length = n := by
  unfold rangeD
  rw [List.length_map, List.length_range]
theorem rangeD_get {a s : Int} {n i : Nat} (h : i < n) : (rangeD a s n)[i]? = some (.int (a + (i : Int) * s)) := by
  unfold rangeD
  rw [List.getElem?_map, List.getElem?_range h]
  rfl
theorem il_range {lo : Int} {n : Nat} : ItL mg (Itr lo n) (rangeD lo 1 n, noChk) N c H where
  stop := fun N' c' H' st sx _ _ => by show n ≤ (rangeD lo 1 n).length; rw [rangeD_len]; exact Nat.le_refl _
  go := fun i N' c' H' st hi sx _ _ => by
    have hi : i < (rangeD lo 1 n).length := hi
    rw [rangeD_len] at hi; exact hi
  yld := fun i N' c' H' st x H2 hi sx W _ y => by
    have hi : i < (rangeD lo 1 n).length := hi
    obtain ⟨rfl, rfl⟩ := y
    rw [rangeD_len] at hi
    refine ⟨_, rangeD_get hi, Ex.refl, W, ?_⟩
    rw [Int.mul_one]
    exact .int _
end
def inR (i : Int) : Bool := decide (-(2 ^ 62) ≤ i) && decide (i < 2 ^ 62)
theorem inR_ok {i : Int} (h : inR i = true) : -(2 ^ 62) ≤ i ∧ i < 2 ^ 62 := by
  unfold inR at h
  rw [Bool.and_eq_true] at h
  exact ⟨of_decide_eq_true h.1, of_decide_eq_true h.2⟩
def iRg1 (f : SA) : Fx Src := fun env st => match f env st with
  | some ([.int j], s1) => if inR j = true then some ((rangeD 0 1 j.toNat, noChk), s1) else none
  | _ => none
def iRg2 (f : SA) : Fx Src := fun env st => match f env st with
  | some ([.int i, .int j], s1) => if inR i = true ∧ inR j = true then some ((rangeD i 1 (j - i).toNat, noChk), s1) else none
  | _ => none
def iRg3 (f : SA) : Fx Src := fun env st => match f env st with
  | some ([.int i, .int j, .int k], s1) => if (k ≠ 0 ∧ k.natAbs < 1073741824) ∧ Builtin.Range.small i j k = true ∧ Builtin.Range.rangeSize i j k = ((Builtin.Range.rangeSize i j k).toNat : Int) then some ((rangeD i k (Builtin.Range.rangeSize i j k).toNat, noChk), s1) else none
  | _ => none
section
variable {mg : Glob} {X : Cx} {tg e : Expr} {fe : SE} {f : SA}
theorem i_seq (h : PE X e (tE mg fe)) (hK : X.K = mg.K := by rfl) : PI X tg e (tI mg (iSeq fe)) := pi_weak (pi_or (pi_list h) (pi_tup h)) fun σ H R' ⟨E, N, c, env, st, xs, st', R, q, k⟩ => by
  unfold iSeq at q
  split at q
  · rename_i ys s1 q1
    cases q
    refine .inl ⟨E, N, c, env, st, _, _, R, q1, fun v N1 c1 H1 x1 W1 r1 => ?_⟩
    cases r1 with
    | lst ha n r => exact ⟨_, rfl, ⟨_, SqL.of ha⟩, k _ N1 c1 H1 x1 W1 (il_list ha n r)⟩
  · rename_i ys s1 q1
    cases q
    refine .inr ⟨E, N, c, env, st, _, _, R, q1, fun v N1 c1 H1 x1 W1 r1 => ?_⟩
    cases r1 with
    | tup ha r => exact ⟨_, rfl, ⟨_, SqT.of ha⟩, k _ N1 c1 H1 x1 W1 (il_tup ha r)⟩
  · rename_i kk s1 q1
    split at q
    · rename_i ns hn
      cases q
      refine .inl ⟨E, N, c, env, st, _, _, R, q1, fun v N1 c1 H1 x1 W1 r1 => ?_⟩
      obtain ⟨a, rfl, ha⟩ := RepT.ints W1 (.inl r1) hn
      cases r1 with
      | cell hk => exact ⟨a, rfl, ⟨_, hK ▸ ha⟩, k _ N1 c1 H1 x1 W1 (il_cell hk)⟩
    · cases q
  · cases q
theorem tl1' {N : Prot} {c : List Addr} {H : Hp} {us : List V} {i : Int} (h : RepTL mg N c H us [.int i]) : us = [.int i] := by
  obtain ⟨u, rfl, z⟩ := tl1 h
  rw [z.int]
theorem i_rg1 {a : Expr} {p pos : Pos} (hm : X.mg "range" = none) (ha : PA X [a] (tAP mg f)) (hg : Gl X "range" := by rfl) (hs : starEach [a] X.env = [(false, eval a X.env)] := by rfl) : PI X tg (.Call (.Name "range" p) [a] [] pos) (tI mg (iRg1 f)) := pi_weak (pi_range1 hg hm ha hs) fun σ H R' ⟨E, N, c, env, st, xs, st', R, q, k⟩ => by
  unfold iRg1 at q
  split at q
  · rename_i j s1 q1
    split at q
    · rename_i hr
      cases q
      refine ⟨E, N, c, env, st, _, _, R, q1, fun vs N1 c1 H1 x1 W1 r1 => ?_⟩
      obtain ⟨h1, h2⟩ := inR_ok hr
      exact ⟨j, tl1' r1, h1, h2, k _ N1 c1 H1 x1 W1 il_range⟩
    · cases q
  · cases q
theorem i_rg2 {a b : Expr} {p pos : Pos} (hm : X.mg "range" = none) (ha : PA X [a, b] (tAP mg f)) (hg : Gl X "range" := by rfl) (hs : starEach [a, b] X.env = [(false, eval a X.env), (false, eval b X.env)] := by rfl) (hs2 : starEach [b] X.env = [(false, eval b X.env)] := by rfl) :
    PI X tg (.Call (.Name "range" p) [a, b] [] pos) (tI mg (iRg2 f)) := pi_weak (pi_range2 hg hm ha hs hs2) fun σ H R' ⟨E, N, c, env, st, xs, st', R, q, k⟩ => by
  unfold iRg2 at q
  split at q
  · rename_i i j s1 q1
    split at q
    · rename_i hr
      cases q
      refine ⟨E, N, c, env, st, _, _, R, q1, fun vs N1 c1 H1 x1 W1 r1 => ?_⟩
      obtain ⟨h1, h2⟩ := inR_ok hr.1
      obtain ⟨h3, h4⟩ := inR_ok hr.2
      obtain ⟨u, u', rfl, z, z'⟩ := tl2 r1
      exact ⟨i, j, by rw [z.int, z'.int], ⟨h1, h2, h3, h4⟩, k _ N1 c1 H1 x1 W1 il_range⟩
    · cases q
  · cases q
end

/-! ### list comprehensions -/
def wipeE (env : Env) : List Nat → Env
  | [] => env
  | v :: vs => (wipeE env vs).set v .un
def compM (chk : Sto → Bool) (asg : D → Env → Option Env) (cond : SB) (elt : SE) (env0 : Env) : List D → Sto → Option (List D × Sto)
  | [], st => if chk st = true then some ([], st) else none
  | d :: ds, st => if chk st = true then (match asg d env0 with
    | none => none
    | some e1 => match cond e1 st with
      | none => none
      | some (false, s1) => compM chk asg cond elt env0 ds s1
      | some (true, s1) => match elt e1 s1 with
        | none => none
        | some (y, s2) => match compM chk asg cond elt env0 ds s2 with
          | none => none
          | some (ys, s3) => some (y :: ys, s3)) else none
def lComp (fi : Fx Src) (asg : D → Env → Option Env) (cond : SB) (elt : SE) (vs : List Nat) : Fx (List D) := fun env st => match fi env st with
  | none => none
  | some (xs, s1) => if xs.1.length ≤ 1000000 then compM xs.2 asg cond elt (wipeE env vs) xs.1 s1 else none
def bYes : SB := fun _ st => some (true, st)
section
variable {mg : Glob}
theorem Rel.wipe {E : En} {N : Prot} {c : List Addr} {env : Env} {st : Sto} {σ : L2.St} {H : Hp} (R : Rel mg E N c env st σ H) : ∀ (vs : List Nat), Rel mg E N c (wipeE env vs) st (L2.wipe σ vs) H
  | [] => R
  | v :: vs => by
    have R0 := Rel.wipe R vs
    unfold wipeE L2.wipe
    refine ⟨by rw [List.length_set, List.length_set]; exact R0.len, fun j s' e => ?_, fun j s' a e ho es => ?_, fun j k s1 s2 a e1 o1 e2 o2 h1 h2 => ?_, R0.wd, R0.n0, R0.t0, R0.base, R0.pre, R0.newc, fun j cn ns ds b e es => ?_⟩
    · rcases get_set e with ⟨rfl, rfl⟩ | ⟨ne, e⟩
      · trivial
      · rw [List.getElem?_set_ne ne]
        exact R0.sl j s' e
    · rcases get_set e with ⟨rfl, rfl⟩ | ⟨ne, e⟩
      · cases ho
      · rw [List.getElem?_set_ne ne] at es
        exact R0.own j s' a e ho es
    · rcases get_set e1 with ⟨rfl, rfl⟩ | ⟨n1, e1⟩
      · cases o1
      · rcases get_set e2 with ⟨rfl, rfl⟩ | ⟨n2, e2⟩
        · cases o2
        · rw [List.getElem?_set_ne n1] at h1
          rw [List.getElem?_set_ne n2] at h2
          exact R0.inj j k s1 s2 a e1 o1 e2 o2 h1 h2
    · rcases get_set e with ⟨rfl, e2⟩ | ⟨ne, e⟩
      · cases e2
      · rw [List.getElem?_set_ne ne] at es
        exact R0.slf j cn ns ds b e es
/-- a protected list that nobody else holds grows -/
theorem Rel.grow {E : En} {N : Prot} {c : List Addr} {env : Env} {st : Sto} {σ : L2.St} {H : Hp} {p : Addr} {us : List V} (R : Rel mg E N c env st σ H) (np : N p) (nc : p ∉ c) (h0 : E.H0 p = none) (hp : ∃ o, H p = some o ∧ ∀ us, o ≠ .tup us) (nw : ∀ (j : Nat) s, env[j]? = some s → s.isOwn = true → σ[j]? ≠ some (some (.ref p))) :
    Rel mg E N c env st σ (upd H p (.lst us)) ∧ Sx N c H N c (upd H p (.lst us)) := by
  have keep : ∀ b o, H b = some o → ¬ N b → (upd H p (.lst us)) b = some o := fun b o e n => by
    rw [upd_ne (show b ≠ p from fun z => n (z ▸ np))]; exact e
  have tk : ∀ b, (upd H p (.lst us)) b = none → H b = none := fun b e => by
    by_cases q : b = p
    · rw [q, upd_same] at e; cases e
    · rw [upd_ne q] at e; exact e
  have sx : Sx N c H N c (upd H p (.lst us)) := ⟨keep, fun _ z => .inl z, fun _ _ z => z, fun _ z => .inl z, tk, fun b us e => by rw [upd_ne (fun z => by obtain ⟨o, h1, h2⟩ := hp; rw [z, h1] at e; cases e; exact h2 us rfl)]; exact e⟩
  refine ⟨⟨R.len, fun j s' e => ?_, R.own, R.inj, ?_, R.n0, R.t0, fun b o e n => ?_, R.pre, R.newc, R.slf⟩, sx⟩
  · have q := R.sl j s' e
    cases s' with
    | un => trivial
    | val d => obtain ⟨v, ev, rv⟩ := q; exact ⟨v, ev, rv.tr sx.tr⟩
    | own ys =>
      obtain ⟨b, us', ev, hb', rv⟩ := q
      have : b ≠ p := fun z => nw j _ e rfl (by rw [← z]; exact join_some ev)
      exact ⟨b, us', ev, by rw [upd_ne this]; exact hb', rv.tr sx.tr⟩
    | ownI cn ns ds =>
      obtain ⟨b, C, dx, fs, ev, hc, hb', hn, rv⟩ := q
      have : b ≠ p := fun z => nw j _ e rfl (by rw [← z]; exact join_some ev)
      exact ⟨b, C, dx, fs, ev, hc, by rw [upd_ne this]; exact hb', hn, rv.tr sx.tr⟩
    | ownD ks ds =>
      obtain ⟨b, kvs, ev, hb', hn, rv⟩ := q
      have : b ≠ p := fun z => nw j _ e rfl (by rw [← z]; exact join_some ev)
      exact ⟨b, kvs, ev, by rw [upd_ne this]; exact hb', hn, rv.tr sx.tr⟩
    | ownT ks ds =>
      obtain ⟨b, kvs, ev, hb', hn, rv⟩ := q
      have : b ≠ p := fun z => nw j _ e rfl (by rw [← z]; exact join_some ev)
      exact ⟨b, kvs, ev, by rw [upd_ne this]; exact hb', hn, rv.tr sx.tr⟩
  · exact ⟨R.wd.len, fun k b ys h1 h2 => by
      obtain ⟨us', hb', rr⟩ := R.wd.sto k b ys h1 h2
      exact ⟨us', by rw [upd_ne (show b ≠ p from fun z => nc (z ▸ List.mem_of_getElem? h1))]; exact hb', rr.tr sx.tr⟩, R.wd.cn, R.wd.nd, fun b z e => R.wd.trk b z (tk b e)⟩
  · have : b ≠ p := fun z => by rw [z, h0] at e; cases e
    rw [upd_ne this]
    exact R.base b o e n
theorem wipe_none : ∀ {vs : List Nat} {σ : L2.St} {i : Nat}, i ∈ vs → (L2.wipe σ vs).set i none = L2.wipe σ vs
  | [], _, _, h => by cases h
  | v :: vs, σ, i, h => by
    unfold L2.wipe
    by_cases e : i = v
    · subst e
      rw [List.set_set]
    · have hi : i ∈ vs := (List.mem_cons.mp h).elim (fun z => absurd z e) fun z => z
      rw [List.set_comm _ _ (Ne.symm e), wipe_none hi]
theorem wipe_idem : ∀ {vs us : List Nat} {σ : L2.St}, (∀ i ∈ us, i ∈ vs) → L2.wipe (L2.wipe σ vs) us = L2.wipe σ vs
  | _, [], _, _ => rfl
  | vs, u :: us, σ, h => by
    show (L2.wipe (L2.wipe σ vs) us).set u none = _
    rw [wipe_idem fun i hi => h i (List.mem_cons_of_mem _ hi)]
    exact wipe_none (h u List.mem_cons_self)
variable {fi : Fx Src} {asg : D → Env → Option Env} {cond : SB} {elt : SE} {g : TG} {is vs : List Nat}
theorem r_lc (hg : GOk mg g asg is) (hv : ∀ i ∈ is, i ∈ vs) {σ : L2.St} {H : Hp} {Q : VK} (h : tL mg (lComp fi asg cond elt vs) σ H Q) : tLc (tI mg fi) g (tT mg cond) (tE mg elt) vs σ H Q := by
  obtain ⟨E, N, c, env, st, d, st', R, q, k⟩ := h
  unfold lComp at q
  split at q
  · cases q
  · rename_i src s1 q1
    obtain ⟨xs, chk⟩ := src
    split at q
    · rename_i hl
      have hl : xs.length ≤ 1000000 := hl
      refine ⟨E, N, c, env, st, (xs, chk), s1, R, q1, fun J N1 c1 H1 x1 W1 il => fun p hp => ?_⟩
      have R1 := R.ex x1 W1
      have x2 := Ex.laidN (o := .lst []) W1 hp
      have W2 := W1.laidN (o := .lst []) hp
      have h0 : E.H0 p = none := R1.fresh0 hp
      have hpH : H p = none := x1.free R.wd W1 hp
      have nw := (R1.wipe vs).notOwn hp
      refine ⟨fun i m H' => m = xs.length - i ∧ i ≤ xs.length ∧ ∃ N' c' st2 accD accV ys, Ex N c H N' c' H' ∧ Sx N1 c1 H1 N' c' H' ∧ Rel mg E N' c' (wipeE env vs) st2 (L2.wipe σ vs) H' ∧ N' p ∧ p ∉ c' ∧ H' p = some (.lst accV) ∧ RepL mg N' c' H' accV accD ∧ accD.length ≤ i ∧
        compM chk asg cond elt (wipeE env vs) (xs.drop i) st2 = some (ys, st') ∧ accD ++ ys = d,
        ⟨xs.length, by omega, Nat.zero_le _, _, c1, s1, [], [], d, x1.trans x2 R.wd, x2.sx W1 W2, (R1.ex x2 W2).wipe vs, .inr rfl, W1.cnone hp, upd_same, .nil, Nat.zero_le _, by rw [List.drop_zero]; exact q, rfl⟩, ?_⟩
      rintro i m H' ⟨rfl, hi, N', c', st2, accD, accV, ys, ex, sx, R', np, nc, hpv, ra, la, ql, ed⟩
      by_cases hlt : i < xs.length
      · have ed0 : xs.drop i = xs[i] :: xs.drop (i + 1) := List.drop_eq_getElem_cons hlt
        rw [ed0] at ql
        unfold compM at ql
        split at ql
        · rename_i hck
          refine .inr ⟨il.go i N' c' H' st2 hlt sx R'.wd hck, fun H3 => ∃ N' c' st2 accD accV ys, Ex N c H N' c' H3 ∧ Sx N1 c1 H1 N' c' H3 ∧ Rel mg E N' c' (wipeE env vs) st2 (L2.wipe σ vs) H3 ∧ N' p ∧ p ∉ c' ∧ H3 p = some (.lst accV) ∧ RepL mg N' c' H3 accV accD ∧ accD.length ≤ i + 1 ∧
            compM chk asg cond elt (wipeE env vs) (xs.drop (i + 1)) st2 = some (ys, st') ∧ accD ++ ys = d, fun H3 z => ⟨xs.length - (i + 1), by omega, rfl, hlt, z⟩, fun x H2 y => ?_⟩
          obtain ⟨d0, hd0, x3, W3, r3⟩ := il.yld i N' c' H' st2 x H2 hlt sx R'.wd hck y
          have ed2 : xs[i] = d0 := by
            obtain ⟨_, e⟩ := List.getElem?_eq_some_iff.mp hd0
            exact e
          rw [ed2] at ql
          split at ql
          · cases ql
          · rename_i e1 ha
            have R3 := R'.ex x3 W3
            refine hg E N' c' _ e1 st2 _ H2 x d0 _ R3 r3 ha fun σ4 R4 df => ⟨by rw [df vs hv]; exact wipe_idem fun _ z => z, ?_⟩
            split at ql
            · cases ql
            · rename_i sA qc
              refine ⟨E, N', c', e1, st2, false, sA, R4, qc, fun N5 c5 H5 x5 W5 => iteF ?_⟩
              have x35 := x3.trans x5 R'.wd
              exact ⟨N5, c5, sA, accD, accV, ys, ex.trans x35 R.wd, sx.trans (x35.sx R'.wd W5), R3.ex x5 W5, x5.mono p np, x35.nc R'.wd hpv nc, x35.keep p _ hpv nc, ra.tr (x35.tr R'.wd), Nat.le_succ_of_le la, ql, ed⟩
            · rename_i sA qc
              split at ql
              · cases ql
              · rename_i y1 sB qe
                split at ql
                · cases ql
                · rename_i ys1 s3 qr
                  cases ql
                  refine ⟨E, N', c', e1, st2, true, sA, R4, qc, fun N5 c5 H5 x5 W5 => iteT ?_⟩
                  refine ⟨E, N5, c5, e1, sA, y1, sB, R4.ex x5 W5, qe, fun w N6 c6 H6 x6 W6 r6 => ?_⟩
                  have x36 := (x3.trans x5 R'.wd).trans x6 R'.wd
                  have hp6 := x36.keep p _ hpv nc
                  have nc6 := x36.nc R'.wd hpv nc
                  have np6 := x36.mono p np
                  have ra6 := ra.tr (x36.tr R'.wd)
                  have ln := ra6.length
                  refine ⟨accV, hp6, sz7 (by omega), ?_⟩
                  have R6 : Rel mg E N6 c6 (wipeE env vs) sB (L2.wipe σ vs) H6 := R'.ex x36 W6
                  obtain ⟨Rg, sg⟩ := R6.grow (us := accV ++ [w]) np6 nc6 h0 ⟨_, hp6, by simp⟩ nw
                  have exT := ex.trans x36 R.wd
                  refine ⟨N6, c6, sB, accD ++ [y1], accV ++ [w], ys1, ⟨fun a o e n => ?_, exT.new, exT.mono, exT.pre, exT.newc⟩, (sx.trans (x36.sx R'.wd W6)).trans sg, Rg, np6, nc6, upd_same, (ra6.append (.cons r6 .nil)).tr sg.tr, by rw [List.length_append]; show accD.length + 1 ≤ i + 1; omega, qr, by rw [List.append_assoc]; exact ed⟩
                  rw [upd_ne (ne_of_none e hpH)]
                  exact exT.keep a o e n
        · cases ql
      · have e : i = xs.length := by omega
        subst e
        rw [List.drop_length] at ql
        unfold compM at ql
        split at ql
        · rename_i hck
          cases ql
          rw [List.append_nil] at ed
          subst ed
          exact .inl ⟨il.stop N' c' H' _ sx R'.wd hck, k _ N' c' H' ex R'.wd ⟨p, accV, rfl, hpH, np, nc, hpv, ra⟩⟩
        · cases ql
    · cases q
variable {X : Cx} {eltE tg iter : Expr} {ifs : List Expr} {scope : Scope} {own : List (Str × Nat)} {pos : Pos}
theorem pts_nilT : PTs X [] (tT mg bYes) := ⟨fun pins s σ H Q I h => (pts_nil (X := X)).run pins s σ H Q I (by
  obtain ⟨E, N, c, env, st, b, st', R, q, k⟩ := h
  cases q
  exact k N c H Ex.refl R.wd)⟩
theorem pts_oneT {c : Expr} {t : SB} (h : PT X c (tT mg t)) : PTs X [c] (tT mg t) := pts_one h
/-- [elt for target in iter if ..] -/
theorem d_lc (hc : X.calm = true) (hN : X.N.Nodup) (hi : PI X tg iter (tI mg fi)) (ok : BlkOk X.N X.env.scope scope own)
    (hgg : ∀ (s : Shared) (H : Hp) (C : Addr) (cl : List (Str × Addr)) (fp : List Addr), PG (X.blk s H scope (compEnvC scope cl C X.env) fp) tg g) (hg : GOk mg g asg is) (hv : ∀ i ∈ is, i ∈ own.map (·.2))
    (ht : ∀ (s : Shared) (H : Hp) (C : Addr) (cl : List (Str × Addr)) (fp : List Addr), PTs (X.blk s H scope (compEnvC scope cl C X.env) fp) ifs (tT mg cond))
    (he : ∀ (s : Shared) (H : Hp) (C : Addr) (cl : List (Str × Addr)) (fp : List Addr), PE (X.blk s H scope (compEnvC scope cl C X.env) fp) eltE (tE mg elt)) (hs : ∀ x, foldedSetIterable iter X.env x = pure x := by intro _; rfl) :
    PE X (.ListComp eltE [⟨tg, iter, ifs, 0⟩] scope pos) (tL mg (lComp fi asg cond elt (own.map (·.2)))) :=
  pe_weak (pe_lc hc hN hi ok hgg ht he hs) fun _ _ _ h => r_lc hg hv h
theorem s_lc {i : Nat} {y : Str} {py spos : Pos} (hc : X.calm = true) (hN : X.N.Nodup) (hy : X.N[i]? = some y) (hyl : X.env.scope.names.lookup y = some .local)
    (hsw : swapsWith (.ListComp eltE [⟨tg, iter, ifs, 0⟩] scope pos) (some (.Name y py)) spos.line X.env = pure true) (hi : PI X tg iter (tI mg fi)) (ok : BlkOk X.N X.env.scope scope own)
    (hgg : ∀ (s : Shared) (H : Hp) (C : Addr) (cl : List (Str × Addr)) (fp : List Addr), PG (X.blk s H scope (compEnvC scope cl C X.env) fp) tg g) (hg : GOk mg g asg is) (hv : ∀ i ∈ is, i ∈ own.map (·.2))
    (ht : ∀ (s : Shared) (H : Hp) (C : Addr) (cl : List (Str × Addr)) (fp : List Addr), PTs (X.blk s H scope (compEnvC scope cl C X.env) fp) ifs (tT mg cond))
    (he : ∀ (s : Shared) (H : Hp) (C : Addr) (cl : List (Str × Addr)) (fp : List Addr), PE (X.blk s H scope (compEnvC scope cl C X.env) fp) eltE (tE mg elt)) (hs : ∀ x, foldedSetIterable iter X.env x = pure x := by intro _; rfl) :
    PS X (.Assign [.Name y py] (.ListComp eltE [⟨tg, iter, ifs, 0⟩] scope pos) spos) (tS mg (sSet i (eL (lComp fi asg cond elt (own.map (·.2)))))) :=
  ps_weak (ps_setLc hc hN hy hyl hsw hi ok hgg ht he hs) fun De σ H h => by
    obtain ⟨E, N, c, env, st, o, st', R, q, p⟩ := tS_def.mp h
    refine r_lc (Q := fun x H1 => gName i x σ H1 De.nx) hg hv ?_
    unfold sSet eL at q
    cases qf : lComp fi asg cond elt (own.map (·.2)) env st with
    | none => rw [qf] at q; cases q
    | some z =>
      obtain ⟨xs, s1⟩ := z
      rw [qf] at q
      cases q
      refine ⟨E, N, c, env, st, xs, _, R, qf, fun v N' c' H' x W r => ?_⟩
      obtain ⟨N'', x2, W2, r2⟩ := r.give R.wd x W
      exact p N'' c' _ H' (x2.sx R.wd W2) ((R.ex x2 W2).set (s := .val _) rfl ⟨v, rfl, r2⟩)
end
end LW

/-! LwK: bodies of defs; cells handed back; fields of a new instance; two names at once. -/
namespace LW
open PySem L2 PyProof.Rows

/-! ### a def by its body -/
def env0 (m : Nat) (ds : List D) : Env := ds.map Sl.val ++ List.replicate (m - ds.length) .un
def fnM (n m : Nat) (body : SS) : FM := fun ds st => if ds.length = n then (match body (env0 m ds) st with
  | some (.rt d, s1) => some (d, s1)
  | some (.nx _, s1) => some (.non, s1)
  | _ => none) else none
theorem fnM_ar {n m : Nat} {body : SS} : Ar n (fnM n m body) := fun ds st r h => by
  unfold fnM at h
  split at h
  · rename_i e; exact e
  · cases h
section
variable {mg : Glob}
theorem rel0 {N : Prot} {c : List Addr} {H : Hp} {st : Sto} {nm : List Str} {vs : List V} {ds : List D} (W : Wd mg N c H st) (r : RepL mg N c H vs ds) : Rel mg ⟨H, N, c, none⟩ N c (env0 nm.length ds) st (L2.start nm vs) H where
  len := by
    unfold L2.start env0
    rw [List.length_append, List.length_append, List.length_map, List.length_map, List.length_replicate, List.length_replicate, r.length]
  sl := fun i s e => by
    unfold env0 at e
    by_cases hi : i < ds.length
    · rw [List.getElem?_append_left (by simpa using hi), List.getElem?_map, List.getElem?_eq_getElem hi] at e
      cases e
      obtain ⟨v, hv, rv⟩ := r.get (List.getElem?_eq_getElem hi)
      refine ⟨v, ?_, rv⟩
      unfold L2.start
      rw [List.getElem?_append_left (by rw [List.length_map, r.length]; exact hi), List.getElem?_map, hv]
      rfl
    · rw [List.getElem?_append_right (by simpa using hi), List.getElem?_replicate] at e
      split at e
      · cases e; trivial
      · cases e
  own := fun i s a e ho _ => by
    unfold env0 at e
    by_cases hi : i < ds.length
    · rw [List.getElem?_append_left (by simpa using hi), List.getElem?_map, List.getElem?_eq_getElem hi] at e
      cases e; cases ho
    · rw [List.getElem?_append_right (by simpa using hi), List.getElem?_replicate] at e
      split at e
      · cases e; cases ho
      · cases e
  inj := fun i j s s' a e ho _ _ _ _ => by
    unfold env0 at e
    by_cases hi : i < ds.length
    · rw [List.getElem?_append_left (by simpa using hi), List.getElem?_map, List.getElem?_eq_getElem hi] at e
      cases e; cases ho
    · rw [List.getElem?_append_right (by simpa using hi), List.getElem?_replicate] at e
      split at e
      · cases e; cases ho
      · cases e
  wd := W
  n0 := fun _ h => h
  t0 := fun a h => W.trk a h
  base := fun _ _ h _ => h
  pre := fun _ _ h => h
  newc := fun _ h => .inl h
  slf := fun i cn ns dd a e _ => by
    unfold env0 at e
    by_cases hi : i < ds.length
    · rw [List.getElem?_append_left (by simpa using hi), List.getElem?_map, List.getElem?_eq_getElem hi] at e
      cases e
    · rw [List.getElem?_append_right (by simpa using hi), List.getElem?_replicate] at e
      split at e
      · cases e
      · cases e
theorem Fin.ex {N : Prot} {c c' : List Addr} {H H' : Hp} {st st' : Sto} {v : V} {d : D} (W : Wd mg N c H st) (f : Fin mg ⟨H, N, c, none⟩ c' st' H' v d) : Ex N c H (fun a => N a ∨ a ∈ c') c' H' where
  keep := fun a o h n => by
    by_cases q : a ∈ c'
    · rcases f.newc a q with z | z
      · exact absurd z n
      · exact absurd (h.symm.trans z) (by simp)
    · exact f.base a o h q
  new := fun a z => z.elim .inl fun q => (f.newc a q).elim (fun w => .inl (W.cn a w)) .inr
  mono := fun _ h => .inl h
  pre := f.pre
  newc := f.newc
end
section
variable {P : Program} {w : World} {K : PySem.W.Frag} {mg : Str → Option Value} {base : Heap}
/-- THE RULE for a def: it reckons what its body reckons -/
theorem fn_M {x qual : Str} {st : Stmt} {f : Addr} {fd : FuncData} {nm ps : List Str} {k : Nat} {body : SS} (F : Fun K x qual st f fd) (S : FnScope nm ps (defScope st))
    (hbody : ∀ (cdv : Value) (A : Around) (outer : List PySem.Env) (s : Shared) (H : Hp) (E : XK), Room k (A.deeper (envOfC qual (defScope st) s.heap.objs.size f cdv)) →
      PSs (cxOf CX0 P w K mg base nm qual (defScope st) f cdv A outer s H E).nox (defBody st) (tS ⟨mg, K⟩ body)) :
    FnOk P w K mg base CX0 (k + 1) f fd ps (spM ⟨mg, K⟩ (fnM ps.length nm.length body) ps.length) := by
  refine F.ok S (fun vs H Q E h => h.1) fun cdv A outer s H vs Q E hr h => ⟨_, hbody cdv A outer s H E hr, ?_⟩
  obtain ⟨_, N, c, ds, st0, d, st', W, r, q, kk⟩ := h
  unfold fnM at q
  split at q
  · rename_i hl
    have R := rel0 (nm := nm) W r
    split at q
    · rename_i d1 s1 q1
      cases q
      exact tS_def.mpr ⟨_, N, c, _, st0, _, _, R, q1, fun c' H' v fn => kk v _ c' H' (fn.ex W) fn.wd fn.rep⟩
    · rename_i e1 s1 q1
      cases q
      exact tS_def.mpr ⟨_, N, c, _, st0, _, _, R, q1, fun N' c' σ' H' sx R' => kk .non _ c' H' ((R'.fin .non).ex W) (R'.fin .non).wd (.non)⟩
    · cases q
  · cases q
end

/-! ### a new list handed back as a cell -/
def sRetC (f : Fx (List D)) : SS := fun env st => match f env st with
  | some (xs, s1) => some (.rt (.cell s1.length), s1 ++ [xs])
  | none => none
section
variable {mg : Glob} {E : En} {N : Prot} {c : List Addr} {H : Hp} {st : Sto} {env : Env} {σ : L2.St} {p : Addr} {vs : List V} {xs : List D}
theorem Rel.finC (R : Rel mg E N c env st σ H) (hp : H p = some (.lst vs)) (np : N p) (nc : p ∉ c) (h0 : E.H0 p = none) (r : RepL mg N c H vs xs) : Fin mg E (c ++ [p]) (st ++ [xs]) H (.ref p) (.cell st.length) := by
  have less : ∀ a, (E.N0 a ∨ a ∈ c ++ [p]) → N a := fun a z => z.elim (R.n0 a) fun q => (List.mem_append.mp q).elim (R.wd.cn a) fun q => by
    have e : a = p := by simpa using q
    rw [e]; exact np
  have tr : Tr N c H (fun a => E.N0 a ∨ a ∈ c ++ [p]) (c ++ [p]) H := ⟨fun _ _ e _ => e, fun a z => .inl (less a z), fun k a e => by rw [List.getElem?_append_left (List.getElem?_eq_some_iff.mp e).1]; exact e, fun _ _ e => e⟩
  have hl := R.wd.len
  refine ⟨⟨by rw [List.length_append, List.length_append, hl]; rfl, fun k a ys h1 h2 => ?_, fun a z => .inr z, ?_, fun a z => R.wd.trk a (less a z)⟩, .cell (by rw [← hl, List.getElem?_append_right (Nat.le_refl _)]; simp), fun a o e n => R.base a o e fun z => n (List.mem_append_left _ z), fun k a e => tr.pre k a (R.pre k a e), fun a z => ?_⟩
  · by_cases hk : k < c.length
    · rw [List.getElem?_append_left hk] at h1
      rw [List.getElem?_append_left (by omega)] at h2
      obtain ⟨us, ha, rr⟩ := R.wd.sto k a ys h1 h2
      exact ⟨us, ha, rr.tr tr⟩
    · rw [List.getElem?_append_right (by omega)] at h1 h2
      by_cases e : k - c.length = 0
      · rw [e] at h1
        rw [← hl, e] at h2
        cases h1
        cases h2
        exact ⟨_, hp, .l (r.tr tr)⟩
      · rw [List.getElem?_eq_none (by simp; omega)] at h1
        cases h1
  · exact List.nodup_append.mpr ⟨R.wd.nd, by simp, fun a ha b hb => by
      have e : b = p := by simpa using hb
      rw [e]
      exact fun z => nc (z ▸ ha)⟩
  · rcases List.mem_append.mp z with z | z
    · exact R.newc a z
    · have e : a = p := by simpa using z
      rw [e]; exact .inr h0
end
section
variable {mg : Glob} {X : Cx} {e : Expr} {pos : Pos} {fl : Fx (List D)}
theorem s_retC (he : PE X e (tL mg fl)) : PS X (.Return (some e) pos) (tS mg (sRetC fl)) := ps_weak (ps_ret he) fun De σ H h => by
  obtain ⟨E, N, c, env, st, o, st', R, q, p⟩ := tS_def.mp h
  unfold sRetC at q
  split at q
  · rename_i xs s1 q1
    cases q
    refine ⟨E, N, c, env, st, xs, s1, R, q1, fun v N' c' H' x W r => ?_⟩
    obtain ⟨a, vs, rfl, hn, na, nc, ha, rr⟩ := r
    exact p _ _ _ ((R.ex x W).finC ha na nc (R.fresh0 hn) rr)
  · cases q
/-- return x, x a list of the frame's own, as a cell -/
def sRetO (i : Nat) : SS := fun env st => match env[i]? with
  | some (.own xs) => some (.rt (.cell st.length), st ++ [xs])
  | _ => none
end

/-! ### the fields of a new instance -/
def putD (m : Str) (d : D) : List Str → List D → List Str × List D
  | n :: ns, v :: vs => if n = m then (n :: ns, d :: vs) else (n :: (putD m d ns vs).1, v :: (putD m d ns vs).2)
  | _, _ => ([m], [d])
theorem putD_ok {mg : Glob} {N : Prot} {c : List Addr} {H : Hp} {m : Str} {v : V} {d : D} (h : Rep mg N c H v d) : ∀ {fs : List (Str × V)} {ds : List D}, RepL mg N c H (fs.map (·.2)) ds → (putF m v fs).map (·.1) = (putD m d (fs.map (·.1)) ds).1 ∧ RepL mg N c H ((putF m v fs).map (·.2)) (putD m d (fs.map (·.1)) ds).2
  | [], [], _ => ⟨rfl, .cons h .nil⟩
  | [], _ :: _, r => by cases r
  | _ :: _, [], r => by cases r
  | (a, b) :: r, d0 :: ds, .cons h0 t => by
    obtain ⟨h1, h2⟩ := putD_ok h t
    show ((putF m v ((a, b) :: r)).map (·.1) = (if a = m then (a :: r.map (·.1), d :: ds) else (a :: (putD m d (r.map (·.1)) ds).1, d0 :: (putD m d (r.map (·.1)) ds).2)).1) ∧ RepL mg N c H ((putF m v ((a, b) :: r)).map (·.2)) (if a = m then (a :: r.map (·.1), d :: ds) else (a :: (putD m d (r.map (·.1)) ds).1, d0 :: (putD m d (r.map (·.1)) ds).2)).2
    by_cases e : a = m
    · subst e
      have ep : putF a v ((a, b) :: r) = (a, v) :: r := by
        unfold putF
        rw [if_pos rfl]
      rw [ep, if_pos rfl]
      exact ⟨rfl, .cons h t⟩
    · have ep : putF m v ((a, b) :: r) = (a, b) :: putF m v r := by
        rw [putF, if_neg e]
      rw [ep, if_neg e]
      refine ⟨?_, .cons h0 h2⟩
      rw [List.map_cons, h1]
def sFld (cn : Str) (i : Nat) (m : Str) (fe : SE) : SS := fun env st => match fe env st with
  | some (d, s1) => match env[i]? with
    | some (.ownI cn' ns vs) => if cn' = cn ∧ ns.length < 1000 then some (.nx (env.set i (.ownI cn' (putD m d ns vs).1 (putD m d ns vs).2)), s1) else none
    | _ => none
  | none => none
section
variable {mg : Glob} {N N' : Prot} {c c' : List Addr} {H H' : Hp} {st st' : Sto} {E : En} {env : Env} {σ : L2.St}
/-- the frame's own instance changes -/
theorem Rel.writeI {i : Nat} {a C dx : Addr} {cn : Str} {ns ns' : List Str} {ds ds' : List D} {fs' : List (Str × V)} (R : Rel mg E N c env st σ H) (he : env[i]? = some (.ownI cn ns ds)) (hs : σ[i]? = some (some (.ref a))) (hC : mg.mg cn = some (.ref C)) (hn : fs'.map (·.1) = ns') (r : RepL mg N c H (fs'.map (·.2)) ds') :
    Rel mg E N c (env.set i (.ownI cn ns' ds')) st σ (upd H a (.ins C dx fs')) ∧ Sx N c H N c (upd H a (.ins C dx fs')) := by
  obtain ⟨na, nc, n0⟩ := R.own i _ a he rfl hs
  have keep : ∀ b o, H b = some o → ¬ N b → (upd H a (.ins C dx fs')) b = some o := fun b o e n => by
    rw [upd_ne (show b ≠ a from fun z => n (z ▸ na))]; exact e
  have tk : ∀ b, (upd H a (.ins C dx fs')) b = none → H b = none := fun b e => by
    by_cases q : b = a
    · rw [q, upd_same] at e; cases e
    · rw [upd_ne q] at e; exact e
  have sx : Sx N c H N c (upd H a (.ins C dx fs')) := ⟨keep, fun _ z => .inl z, fun _ _ z => z, fun _ z => .inl z, tk, fun b us e => by rw [upd_ne (fun z => R.ownNT he rfl hs us (by rw [← z]; exact e))]; exact e⟩
  have ne_of_own : ∀ (j : Nat) s b, i ≠ j → env[j]? = some s → s.isOwn = true → σ[j]? = some (some (.ref b)) → b ≠ a := fun j s b ne e ho z q => by
    subst q
    exact ne (R.inj i j _ s b he rfl e ho hs z)
  refine ⟨⟨by rw [List.length_set]; exact R.len, fun j s' e => ?_, fun j s' b e ho es => ?_, fun j k s1 s2 b e1 o1 e2 o2 h1 h2 => ?_, ?_, R.n0, R.t0, fun b o e n => ?_, R.pre, R.newc, fun j cn' ns1 ds1 b e es => (get_set e).elim (fun z => by
    obtain ⟨rfl, _⟩ := z
    exact R.slf _ cn ns ds b he es) fun z => R.slf j cn' ns1 ds1 b z.2 es⟩, sx⟩
  · rcases get_set e with ⟨rfl, rfl⟩ | ⟨ne, e⟩
    · rw [hs]
      exact ⟨a, C, dx, fs', rfl, hC, upd_same, hn, r.tr sx.tr⟩
    · have q := R.sl j s' e
      cases s' with
      | un => trivial
      | val d => obtain ⟨v, ev, rv⟩ := q; exact ⟨v, ev, rv.tr sx.tr⟩
      | own ys => obtain ⟨b, us', ev, hb', rv⟩ := q; exact ⟨b, us', ev, by rw [upd_ne (ne_of_own j _ b ne e rfl (join_some ev))]; exact hb', rv.tr sx.tr⟩
      | ownI cn ns ds => obtain ⟨b, C, dx, fs, ev, hc, hb', hn, rv⟩ := q; exact ⟨b, C, dx, fs, ev, hc, by rw [upd_ne (ne_of_own j _ b ne e rfl (join_some ev))]; exact hb', hn, rv.tr sx.tr⟩
      | ownD ks ds => obtain ⟨b, kvs, ev, hb', hn, rv⟩ := q; exact ⟨b, kvs, ev, by rw [upd_ne (ne_of_own j _ b ne e rfl (join_some ev))]; exact hb', hn, rv.tr sx.tr⟩
      | ownT ks ds => obtain ⟨b, kvs, ev, hb', hn, rv⟩ := q; exact ⟨b, kvs, ev, by rw [upd_ne (ne_of_own j _ b ne e rfl (join_some ev))]; exact hb', hn, rv.tr sx.tr⟩
  · rcases get_set e with ⟨rfl, rfl⟩ | ⟨ne, e⟩
    · rw [hs] at es; cases es; exact ⟨na, nc, n0⟩
    · exact R.own j s' b e ho es
  · rcases get_set e1 with ⟨rfl, rfl⟩ | ⟨n1, e1⟩
    · rcases get_set e2 with ⟨rfl, rfl⟩ | ⟨n2, e2⟩
      · rfl
      · exact R.inj _ k _ s2 b he rfl e2 o2 h1 h2
    · rcases get_set e2 with ⟨rfl, rfl⟩ | ⟨n2, e2⟩
      · exact R.inj j _ s1 _ b e1 o1 he rfl h1 h2
      · exact R.inj j k s1 s2 b e1 o1 e2 o2 h1 h2
  · exact ⟨R.wd.len, fun k b ys h1 h2 => by
      obtain ⟨us', hb', rr⟩ := R.wd.sto k b ys h1 h2
      exact ⟨us', by rw [upd_ne (show b ≠ a from fun z => nc (z ▸ List.mem_of_getElem? h1))]; exact hb', rr.tr sx.tr⟩, R.wd.cn, R.wd.nd, fun b z e => R.wd.trk b z (tk b e)⟩
  · have : b ≠ a := fun z => by rw [z, n0] at e; cases e
    rw [upd_ne this]
    exact R.base b o e n
end
section
variable {mg : Glob} {X : Cx} {e : Expr} {pos apos : Pos} {fe : SE} {m : Str} {C : Addr} {cn : Str}
/-- self.m = e, self the frame's own new instance of the class cn -/
theorem s_fld {i : Nat} {x : Str} {p1 : Pos} (hC : mg.mg cn = some (.ref C)) (cl : Cls X.K C) (hna : NoAttr X.K C m) (he : PE X e (tE mg fe)) (hN : X.N[i]? = some x := by rfl) (hv : Vis X.env.scope x := by first | exact Or.inl rfl | exact Or.inr (Or.inl rfl) | exact Or.inr (Or.inr rfl)) (hd : (x == ("__debug__" : Str)) = false := by decide)
    (hcd : (x == ("__classdict__" : Str)) = false := by decide) (hs : swapsWith e (some (.Attribute (.Name x p1) m apos)) pos.line X.env = pure false := by rfl) :
    PS X (.Assign [.Attribute (.Name x p1) m apos] e pos) (tS mg (sFld cn i m fe)) :=
  ps_weak (ps_fld (pe_var hN hv hd hcd) he hs) fun De σ H h => by
    obtain ⟨E, N, c, env, st, o, st', R, q, p⟩ := tS_def.mp h
    unfold sFld at q
    split at q
    · rename_i d s1 q1
      split at q
      · rename_i cn' ns vs hx
        split at q
        · rename_i hl
          obtain ⟨rfl, hl⟩ := hl
          cases q
          refine ⟨E, N, c, env, st, d, _, R, q1, fun v N1 c1 H1 x1 W1 r1 => ?_⟩
          have R1 := R.ex x1 W1
          obtain ⟨a, C', dx, fs, ea, hc, ha, hn, rr⟩ := R1.sl i _ hx
          have ea := join_some ea
          rw [hC] at hc
          cases hc
          subst hn
          obtain ⟨h1, h2⟩ := putD_ok (m := m) r1 rr
          have wr := R1.writeI (dx := dx) hx ea hC h1 h2
          exact ⟨.ref a, ea, a, C, dx, fs, rfl, ha, cl, hna, by simpa using hl, p N1 c1 σ _ ((x1.sx R.wd W1).trans wr.2) wr.1⟩
        · cases q
      · cases q
    · cases q
end
/-- the body of an __init__ -/
def fldsOf (cn : Str) : Option Sl → Option (List Str × List D)
  | some (.ownI cn' ns vs) => if cn' = cn then some (ns, vs) else none
  | _ => none
theorem fldsOf_ok {cn : Str} {o : Option Sl} {ns : List Str} {vs : List D} (h : fldsOf cn o = some (ns, vs)) : o = some (.ownI cn ns vs) := by
  unfold fldsOf at h
  split at h
  · split at h
    · rename_i e
      cases h
      rw [e]
    · cases h
  · cases h
theorem env0_noOwn {m : Nat} {ds : List D} {i : Nat} {s : Sl} (e : (env0 m ds)[i]? = some s) : s.isOwn = false := by
  unfold env0 at e
  by_cases hi : i < ds.length
  · rw [List.getElem?_append_left (by simpa using hi), List.getElem?_map, List.getElem?_eq_getElem hi] at e
    cases e; rfl
  · rw [List.getElem?_append_right (by simpa using hi), List.getElem?_replicate] at e
    split at e
    · cases e; rfl
    · cases e
def initM (cn : Str) (n m : Nat) (body : SS) : FI := fun ds st => if ds.length = n then (match body (.ownI cn [] [] :: env0 (m - 1) ds) st with
  | some (.nx e, s1) => match fldsOf cn (e[0]?) with
    | some p => some (p, s1)
    | none => none
  | _ => none) else none
theorem initM_ar {cn : Str} {n m : Nat} {body : SS} : ArI n (initM cn n m body) := fun ds st r h => by
  unfold initM at h
  split at h
  · rename_i e; exact e
  · cases h
section
variable {P : Program} {w : World} {K : PySem.W.Frag} {mg : Str → Option Value} {base : Heap}
theorem fn_I {cn x qual : Str} {st : Stmt} {f : Addr} {fd : FuncData} {nm ps : List Str} {k n : Nat} {body : SS} (F : Fun K x qual st f fd) (S : FnScope nm ps (defScope st)) (hn : ps.length = n + 1) (hm : nm.length = nm.length - 1 + 1)
    (hbody : ∀ (cdv : Value) (A : Around) (outer : List PySem.Env) (s : Shared) (H : Hp) (E : XK), Room k (A.deeper (envOfC qual (defScope st) s.heap.objs.size f cdv)) →
      PSs (cxOf CX0 P w K mg base nm qual (defScope st) f cdv A outer s H E).nox (defBody st) (tS ⟨mg, K⟩ body)) :
    FnOk P w K mg base CX0 (k + 1) f fd ps (spI ⟨mg, K⟩ cn (initM cn n nm.length body) n) := by
  refine F.ok S (fun vs H Q E h => by rw [h.1, hn]) fun cdv A outer s H vs Q E hr h => ⟨_, hbody cdv A outer s H E hr, ?_⟩
  obtain ⟨_, N, c, z, dz, C, us, ds, st0, ns, fds, st', rfl, hC, hz, nz, ncz, W, r, q, kk⟩ := h
  unfold initM at q
  split at q
  · rename_i hl
    split at q
    · rename_i e1 s1 q1
      split at q
      · rename_i pr hf
        cases q
        -- the entry: as if the instance were not there
        have hs : L2.start nm (.ref z :: us) = some (.ref z) :: (us.map some ++ List.replicate (nm.length - 1 - us.length) none) := by
          unfold L2.start
          rw [List.map_cons, List.length_cons, List.cons_append]
          congr 2
          congr 1
          omega
        have R0 := rel0 (nm := List.replicate (nm.length - 1) ("" : Str)) W r
        have e0 : env0 (nm.length - 1) ds = env0 (List.replicate (nm.length - 1) ("" : Str)).length ds := by rw [List.length_replicate]
        have s0 : (us.map some ++ List.replicate (nm.length - 1 - us.length) none : L2.St) = L2.start (List.replicate (nm.length - 1) ("" : Str)) us := by
          unfold L2.start
          rw [List.length_replicate]
        have R : Rel ⟨mg, K⟩ ⟨fun a => if a = z then none else H a, fun a => N a ∧ a ≠ z, c, some z⟩ N c (.ownI cn [] [] :: env0 (nm.length - 1) ds) st0 (L2.start nm (.ref z :: us)) H := by
          rw [hs, e0, s0]
          refine ⟨by rw [List.length_cons, List.length_cons, R0.len], fun i s e => ?_, fun i s a e ho es => ?_, fun i j s s' a e1 o1 e2 o2 h1 h2 => ?_, W, fun a h => h.1, fun a h e => ?_, fun a o e nc => ?_, fun _ _ h => h, fun _ h => .inl h, fun i cn' ns' ds' a e es => ?_⟩
          · cases i with
            | zero => cases e; exact ⟨z, C, dz, [], rfl, hC, hz, rfl, .nil⟩
            | succ i => exact R0.sl i s e
          · cases i with
            | zero => cases es; exact ⟨nz, ncz, if_pos rfl⟩
            | succ i => rw [env0_noOwn e] at ho; cases ho
          · cases i with
            | zero =>
              cases j with
              | zero => rfl
              | succ j => rw [env0_noOwn e2] at o2; cases o2
            | succ i => rw [env0_noOwn e1] at o1; cases o1
          · exact W.trk a h.1 ((if_neg h.2).symm.trans e)
          · by_cases q : a = z
            · exact absurd ((if_pos q).symm.trans e) (by simp)
            · exact (if_neg q).symm.trans e
          · cases i with
            | zero => cases es; rfl
            | succ i =>
              have := env0_noOwn e
              cases this
        refine tS_def.mpr ⟨_, N, c, _, st0, .nx e1, _, R, q1, fun N' c' σ' H' sx R' => ?_⟩
        have he := fldsOf_ok hf
        obtain ⟨a, C', dx', fs', ea, hc, ha, hnm, rr⟩ := R'.sl 0 _ he
        have ea := join_some ea
        have ez : some z = some a := R'.slf 0 _ _ _ a he ea
        cases ez
        obtain ⟨nz', ncz', _⟩ := R'.own 0 _ z he rfl ea
        have ec : C' = C := by
          have := hc.symm.trans hC
          cases this; rfl
        subst ec
        refine kk N' c' H' dx' fs' (fun b o hb nb ne => ?_) sx.new (fun b hb => ?_) R'.pre (fun b hb => ?_) R'.wd ha hnm rr
        · have h0 : (fun a => if a = z then none else H a : Hp) b = some o := (if_neg ne).trans hb
          refine R'.base b o h0 fun q => ?_
          rcases R'.newc b q with q | q
          · exact nb q
          · exact absurd (h0.symm.trans q) (by simp)
        · by_cases q : b = z
          · rw [q]; exact nz'
          · exact R'.n0 b ⟨hb, q⟩
        · rcases R'.newc b hb with q | q
          · exact .inl q
          · by_cases q2 : b = z
            · exact absurd (q2 ▸ hb) ncz'
            · exact .inr ((if_neg q2).symm.trans q)
      · cases q
    · cases q
  · cases q
end
end LW

/-! LwL: == and != by an own __eq__; two names at once. -/
namespace LW
open PySem L2 PyProof.Rows

/-! ### == and != of own instances -/
section
variable {prog : Program} {w : World} {A : Around} {E : Value → Shared → Prop} {s : Shared} {K : PySem.W.Frag} {x C f : Addr} {ox : Obj} {od : Option Obj} {b tb : Value}
open PySem.W in
/-- x != b where the class has object's __ne__ and an own __eq__ -/
theorem cmpNe_K {Q : Value → Shared → Prop} (hu : A.units + 1 < cLine) (X : K.In s.heap) (I : InstAt s.heap x ox C od) (hb : Looks (model prog w) s.heap (typeOf b) tb) (hn : notFirst K C tb = true)
    (hne : findIn K (.ref C) "__ne__" = some (some (.builtin "object.__ne__"))) (hob : mroIn K C (.type "object") = some true)
    (hs : findIn K (.ref C) "__eq__" = some (some (.ref f))) (hf : isFn K (.ref f) = true)
    (h : wpAny (model prog w) A.in1 (call (.ref f) [.ref x, b]) (fun v s' => ∃ r, v = .bool r ∧ Q (.bool (!r)) s') E s) : wpAny (model prog w) A (richCompare .NotEq (.ref x) b) Q E s := by
  have sub : Looks (model prog w) s.heap (isInstance (.ref x) (.type "object")) true := I.type.andThen (looks_mroIn X hob)
  have body : wpAny (model prog w) A.in1 (Builtin.«object.__ne__» ⟨[.ref x, b], []⟩) (fun fin s' => ∃ r, fin = .done (.ret (.bool r)) ∧ Q (.bool r) s') E s := by
    unfold Builtin.«object.__ne__»
    repeat (first
      | with_reducible refine wpAny_cRoomFor hu ?_
      | (refine wpAny_bind (m := callSpecialIfBound? (.ref x) (Str.ofString "__eq__") [b])
          (ifBound_K X I hs hf (wpAny_mono h (fun r s' hr => by
            obtain ⟨q, rfl, hq⟩ := hr
            repeat (first | exact ⟨_, rfl, hq⟩ | exact wpAny_pure ⟨_, rfl, hq⟩ | exact wpAny_truthy_bool ⟨_, rfl, hq⟩ | (refine wpAny_bind (m := truthy (.bool _)) (wpAny_truthy_bool ?_)) | wp_step)) fun _ _ e => e)))
      | wp_step)
  have one : wpAny (model prog w) A (tryCompare (.ref x) "__ne__" b) (fun r s' => ∃ v, r = some v ∧ Q v s') E s := by
    unfold tryCompare
    refine wpAny_bind ?_
    simp only [callSpecialIfBound?, bindSpecialIfBound?]
    refine wpAny_holding (wpAny_bind (wpAny_bind (wpAny_bind (I.type.here ((looks_findIn X hne).here ?_)))))
    have callB : wpAny (model prog w) A (call (.builtin "object.__ne__") ([.ref x] ++ [b])) (fun v s' => ∃ r, v = .bool r ∧ Q (.bool r) s') E s := by
      refine wpAny_call (codeAny_call_builtin PySem.F.cmp_object.ne.plain PySem.F.cmpEntry_ne (check_slot PySem.F.cmpKind_ne PySem.F.cmpSplit_ne sub (PySem.F.cmpArgs_ne _ _) (wpAny_mono body (fun fin s' hq => ?_) fun _ _ e => e)))
      obtain ⟨r, rfl, hq⟩ := hq
      exact ⟨r, rfl, hq⟩
    have fin : wpAny (model prog w) A (call (.builtin "object.__ne__") ([.ref x] ++ [b]) >>= fun v => pure (some v)) (fun r s' => wpAny (model prog w) A (match r with | some .notImplemented => pure none | none => pure none | some v => pure (some v)) (fun r s' => ∃ v, r = some v ∧ Q v s') E s') E s :=
      wpAny_bind (wpAny_mono callB (fun v s' h' => by
        obtain ⟨r, rfl, hq⟩ := h'
        exact wpAny_pure (wpAny_pure ⟨_, rfl, hq⟩)) fun _ _ e => e)
    refine wpAny_bind (wpAny_askSetting (wpAny_ite ?_))
    split
    · rw [PySem.F.cmp_object.ne.bind]
      exact wpAny_bind (wpAny_pure (wpAny_pure (by exact fin)))
    · rw [PySem.F.cmp_object.ne.bind]
      exact wpAny_tryCatch (wpAny_bind (wpAny_pure (wpAny_pure (by exact fin))))
  unfold richCompare
  simp only [oneThing_ref]
  refine wpAny_holding (wpAny_bind (wpAny_cRoomFor (Nat.lt_of_succ_lt hu) ?_))
  refine wpAny_bind (I.type.here (wpAny_bind (hb.here ?_)))
  split
  · rename_i q
    have e : subIn K tb (.ref C) = some false := by
      rcases Bool.or_eq_true_iff.mp hn with e | e
      · rw [beq_iff_eq.mp e] at q; simp at q
      · exact beq_iff_eq.mp e
    refine wpAny_bind ((looks_subIn X e).here ?_)
    simp only [Bool.false_eq_true, if_false]
    refine wpAny_bind (wpAny_mono one (fun r s' z => ?_) fun _ _ e => e)
    obtain ⟨v, rfl, hq⟩ := z
    exact wpAny_pure hq
  · refine wpAny_bind (wpAny_pure ?_)
    simp only [Bool.false_eq_true, if_false]
    refine wpAny_bind (wpAny_mono one (fun r s' z => ?_) fun _ _ e => e)
    obtain ⟨v, rfl, hq⟩ := z
    exact wpAny_pure hq
end
/-- x == y, x != y where the class C of x has an own __eq__ with the promise sp -/
def rOwn (K : PySem.W.Frag) (C : Addr) (sp : Sp) (neg : Bool) : R2 := fun x y H Q => ∃ a dx fs t, x = .ref a ∧ H a = some (.ins C dx fs) ∧ TyX K H y t ∧ PySem.W.notFirst K C t = true ∧ sp [x, y] H (fun v H' => ∃ b, v = .bl b ∧ Q (.bl (if neg then !b else b)) H') E0
section
variable {X : Cx} {k : Nat} {f C : Addr} {fd : FuncData} {ps : List Str} {sp : Sp}
theorem op_neO (F : FnOk X.prog X.w X.K X.mg X.base CX0 k f fd ps sp) (hr : Room (k + 1) X.A) (hne : PySem.W.findIn X.K (.ref C) "__ne__" = some (some (.builtin "object.__ne__"))) (hob : PySem.W.mroIn X.K C (.type "object") = some true)
    (hs : PySem.W.findIn X.K (.ref C) "__eq__" = some (some (.ref f))) (hf : PySem.W.isFn X.K (.ref f) = true) (hb : Binds X.K fd ps []) : OpR X (compareOp .NotEq) (rOwn X.K C sp true) := by
  intro pins s σ H x y v u Q I rx ry hq
  obtain ⟨a, dx, fs, t, rfl, ha, ty, nf, q⟩ := hq
  obtain rfl : v = Value.ref a := rx
  obtain ⟨mA, J, _⟩ := ins_get I.hok ha
  obtain ⟨od, J, _⟩ := J.look
  obtain ⟨P, Z, p, _⟩ := kit_of I ry ty
  show wpAny (model X.prog X.w) X.A (richCompare .NotEq (.ref a) u) (EP X pins σ Q) X.xe s
  refine cmpNe_K (by have := hr.units; omega) I.kIn J (Z.ty _ _ I.kIn p) nf hne hob hs hf ?_
  have r2 : Vals [V.ref a, y] [Value.ref a, u] := .cons rfl (.cons ry .nil)
  have hl : ([Value.ref a, u] : List Value).length = ps.length := by
    have e := F.len _ _ _ _ q
    exact e
  refine wpAny_call (codeAny_mono (F.run X.A.in1 X.stack s H ⟨[.ref a, u], []⟩ [.ref a, u] [.ref a, y] _ E0 hr.in1 I.env0.in1 (by
    have z := hb s [.ref a, u] I.kIn (by rw [List.append_nil]; exact hl)
    rw [List.append_nil] at z
    exact z) r2 q) fun r s' hq => ?_)
  cases r with
  | error e => exact hq.elim
  | ok fl =>
    cases fl with
    | ret w =>
      obtain ⟨z, H', I', rz, b, rfl, qz⟩ := I.after hq
      obtain rfl : w = Value.bool b := rz
      exact ⟨b, rfl, .bl (!b), H', I', rfl, qz⟩
    | next => exact False.elim hq
    | brk => exact False.elim hq
    | cont => exact False.elim hq
end
/-- a value whose class is known -/
def okTy (st : Sto) (cs : List Str) (y : D) : Bool := match ty7 st y with
  | some _ => true
  | none => match y with
    | .obj n _ _ => decide (n ∈ cs)
    | _ => false
/-- x == y by data -/
def eOwn (cn : Str) (cs : List Str) (neg : Bool) (g : FM) (fa fb : SE) : SE := fun env st => match fa env st with
  | some (.obj cn' ns vs, s1) => if cn' = cn then (match fb env s1 with
    | none => none
    | some (y, s2) => if okTy s2 cs y = true then (match g [.obj cn' ns vs, y] s2 with
      | some (.bl b, s3) => some (.bl (if neg then !b else b), s3)
      | _ => none) else none) else none
  | _ => none
section
variable {mg : Glob} {X : Cx} {k : Nat} {f C : Addr} {fd : FuncData} {ps : List Str} {g : FM} {cn : Str} {cs : List Str} {a b : Expr} {pos : Pos} {fa fb : SE}
/-- the other's class is not asked first -/
structure NotF (mg : Glob) (cs : List Str) (C : Addr) : Prop where
  own : ∀ n C', n ∈ cs → mg.mg n = some (.ref C') → PySem.W.notFirst mg.K C (.ref C') = true
  blt : ∀ t : Ty7, PySem.W.notFirst mg.K C (.type t.name) = true
theorem r_own2 {neg : Bool} (hC : mg.mg cn = some (.ref C)) (T : Isi mg cs) (nf : NotF mg cs C) (har : Ar 2 g) {σ : L2.St} {H : Hp} {Q : VK} (h : tE mg (eOwn cn cs neg g fa fb) σ H Q) : tOp (rOwn mg.K C (spM mg g 2) neg) (tE mg fa) (tE mg fb) σ H Q := by
  obtain ⟨E0, N, c, env, st, d, st', R, q, kk⟩ := h
  unfold eOwn at q
  split at q
  · rename_i cn' ns vs s1 q1
    split at q
    · rename_i hcn
      subst hcn
      split at q
      · cases q
      · rename_i y s2 q2
        split at q
        · rename_i hty
          split at q
          · rename_i b s3 q3
            cases q
            refine ⟨E0, N, c, env, st, _, s1, R, q1, fun v N1 c1 H1 x1 W1 r1 => ?_⟩
            refine ⟨E0, N1, c1, env, s1, y, s2, R.ex x1 W1, q2, fun u N2 c2 H2 x2 W2 r2 => ?_⟩
            have r1' := Rep.tr (x2.tr W1) r1
            obtain ⟨a, C', dx, fs', rfl, hc, ha, hn, rr⟩ := RepT.obj (.inl r1')
            rw [hC] at hc
            cases hc
            have tyy : ∃ t, TyX mg.K H2 u t ∧ PySem.W.notFirst mg.K C t = true := by
              cases e7 : ty7 _ y with
              | some t => exact ⟨_, ty7_of W2 (.inl r2) e7, nf.blt t⟩
              | none =>
                unfold okTy at hty
                rw [e7] at hty
                dsimp only at hty
                split at hty
                · rename_i n ns' vs'
                  have hm := of_decide_eq_true hty
                  obtain ⟨b, C', dx', fs'', rfl, hc', hb, _, _⟩ := RepT.obj (.inl r2)
                  have cf := T.cf _ C' hm hc'
                  exact ⟨_, .base (.ins hb cf.cl cf.ha cf.hn cf.htk cf.hm), nf.own _ C' hm hc'⟩
                · cases hty
            obtain ⟨t, t1, t2⟩ := tyy
            refine ⟨a, dx, fs', t, rfl, ha, t1, t2, rfl, N2, c2, _, s2, _, _, W2, .cons r1' (.cons r2 .nil), q3, fun w N3 c3 H3 x3 W3 r3 => ?_⟩
            refine ⟨b, RepT.bl (.inl r3), ?_⟩
            exact kk _ N3 c3 H3 ((x1.trans x2 R.wd).trans x3 R.wd) W3 (.bl _)
          · cases q
        · cases q
    · cases q
  · cases q
theorem d_neO (ha : PE X a (tE mg fa)) (hb' : PE X b (tE mg fb)) (hC : mg.mg cn = some (.ref C)) (T : Isi mg cs) (nf : NotF mg cs C) (F : FnOk X.prog X.w X.K X.mg X.base CX0 k f fd ps (spM mg g 2)) (har : Ar 2 g) (hr : Room (k + 1) X.A) (hne : PySem.W.findIn X.K (.ref C) "__ne__" = some (some (.builtin "object.__ne__"))) (hob : PySem.W.mroIn X.K C (.type "object") = some true)
    (hs : PySem.W.findIn X.K (.ref C) "__eq__" = some (some (.ref f))) (hf : PySem.W.isFn X.K (.ref f) = true) (hb : Binds X.K fd ps []) (hK : X.K = mg.K := by rfl) : PE X (.Compare a [.NotEq] [b] pos) (tE mg (eOwn cn cs true g fa fb)) :=
  pe_weak (pe_cmpR (op_neO F hr hne hob hs hf hb) ha hb' (nomark _)) fun _ _ _ h => hK ▸ r_own2 hC T nf har h
end

/-! ### two names at once -/
/-- what a value may become: data, or a list of the frame's own -/
inductive Kd where
  | val (f : SE) | own (f : Fx (List D))
def Kd.run : Kd → Fx Sl
  | .val f => fun env st => match f env st with
    | some (d, s1) => some (.val d, s1)
    | none => none
  | .own f => fun env st => match f env st with
    | some (xs, s1) => some (.own xs, s1)
    | none => none
def sPar (i j : Nat) (a b : Kd) : SS := fun env st => match a.run env st with
  | some (x, s1) => match b.run env s1 with
    | some (y, s2) => if i = j then none else some (.nx ((env.set i x).set j y), s2)
    | none => none
  | none => none
/-- a reading that gives a slot's content -/
def RK (mg : Glob) : Told Sl := fun _ _ H N' c' H' v s => match s with
  | .val d => Rep mg N' c' H' v d
  | .own xs => ∃ p vs, v = .ref p ∧ H p = none ∧ N' p ∧ p ∉ c' ∧ H' p = some (.lst vs) ∧ RepL mg N' c' H' vs xs
  | _ => False
section
variable {mg : Glob} {X : Cx} {e a b : Expr} {pos : Pos} {fe : SE} {fl : Fx (List D)}
theorem k_val (h : PE X e (tE mg fe)) : PE X e (tX mg (RK mg) (Kd.run (.val fe))) := pe_weak h fun σ H Q ⟨E, N, c, env, st, d, st', R, q, k⟩ => by
  unfold Kd.run at q
  dsimp only at q
  split at q
  · rename_i d0 s1 q1
    cases q
    exact ⟨E, N, c, env, st, d0, _, R, q1, fun v N' c' H' x W r => k v N' c' H' x W r⟩
  · cases q
theorem k_own (h : PE X e (tL mg fl)) : PE X e (tX mg (RK mg) (Kd.run (.own fl))) := pe_weak h fun σ H Q ⟨E, N, c, env, st, d, st', R, q, k⟩ => by
  unfold Kd.run at q
  dsimp only at q
  split at q
  · rename_i d0 s1 q1
    cases q
    exact ⟨E, N, c, env, st, d0, _, R, q1, fun v N' c' H' x W r => k v N' c' H' x W r⟩
  · cases q
/-- a slot is set to what such a reading gave, some steps behind -/
theorem Rel.setK {E : En} {N N1 N2 : Prot} {c c1 c2 : List Addr} {H H1 H2 : Hp} {st st1 st2 : Sto} {env env' : Env} {σ σ' : L2.St} {i : Nat} {v : V} {s : Sl} (R : Rel mg E N c env st σ H) (W1 : Wd mg N1 c1 H1 st1) (x2 : Ex N1 c1 H1 N2 c2 H2) (R2 : Rel mg E N2 c2 env' st2 σ' H2)
    (r : RK mg N c H N1 c1 H1 v s) (hw : ∀ p, H p = none → ∀ (j : Nat) s, env'[j]? = some s → s.isOwn = true → σ'[j]? ≠ some (some (.ref p))) : Rel mg E N2 c2 (env'.set i s) st2 (σ'.set i (some v)) H2 := by
  cases s with
  | un => exact r.elim
  | val d => exact R2.set (s := .val d) rfl ⟨v, rfl, Rep.tr (x2.tr W1) (show Rep mg N1 c1 H1 v d from r)⟩
  | own xs =>
    obtain ⟨p, vs, rfl, hp, np, nc, hv, rr⟩ := r
    exact R2.setOwn (x2.keep p _ hv nc) (x2.mono p np) (x2.nc W1 hv nc) (R.fresh0 hp) (rr.tr (x2.tr W1)) (hw p hp)
  | ownI cn ns ds => exact r.elim
  | ownD ks ds => exact r.elim
  | ownT ks ds => exact r.elim
/-- a, b = x, y -/
theorem s_par {i j : Nat} {x y : Str} {ka kb : Kd} {px py pt : Pos} {kt k2 pt2} (hN : X.N.Nodup) (ha : PE X a (tX mg (RK mg) ka.run)) (hb : PE X b (tX mg (RK mg) kb.run)) (hc : X.calm = true := by rfl) (hi : X.N[i]? = some x := by rfl) (hj : X.N[j]? = some y := by rfl) (hij : i ≠ j := by decide)
    (hx : X.env.scope.names.lookup x = some .local := by rfl) (hy : X.env.scope.names.lookup y = some .local := by rfl)
    (hw : swappedStores [.Tuple [.Name x px, .Name y py] kt pt] (.Tuple [a, b] k2 pt2) X.env = pure (some [x, y]) := by rfl)
    (hs : swapsWithSole [.Tuple [.Name x px, .Name y py] kt pt] (.Tuple [a, b] k2 pt2) pos.line X.env = pure false := by rfl)
    (h1 : starEach [a, b] X.env = (false, eval a X.env) :: starEach [b] X.env := by rfl) (h2 : starEach [b] X.env = (false, eval b X.env) :: starEach [] X.env := by rfl) :
    PS X (.Assign [.Tuple [.Name x px, .Name y py] kt pt] (.Tuple [a, b] k2 pt2) pos) (tS mg (sPar i j ka kb)) :=
  ps_weak (ps_par hc hN hi hj hij hx hy (pa_cons ha (pa_cons hb pa_nil h2) h1) hw hs) fun De σ H h => by
    obtain ⟨E, N, c, env, st, o, st', R, q, p⟩ := tS_def.mp h
    unfold sPar at q
    split at q
    · rename_i s1 st1 q1
      split at q
      · rename_i s2 st2 q2
        split at q
        · cases q
        · cases q
          refine ⟨E, N, c, env, st, s1, st1, R, q1, fun v N1 c1 H1 x1 W1 r1 => ?_⟩
          refine ⟨E, N1, c1, env, st1, s2, _, R.ex x1 W1, q2, fun u N2 c2 H2 x2 W2 r2 => ?_⟩
          refine ⟨v, u, rfl, ?_⟩
          have x12 := x1.trans x2 R.wd
          have R2 := R.ex x12 W2
          have nw1 : ∀ p, H p = none → ∀ (j : Nat) s, env[j]? = some s → s.isOwn = true → σ[j]? ≠ some (some (.ref p)) := fun p hp => R.notOwn hp
          have Ra := Rel.setK (i := i) R W1 x2 R2 r1 nw1
          have R1 := R.ex x1 W1
          have nw2 : ∀ p, H1 p = none → ∀ (m : Nat) s, (env.set i s1)[m]? = some s → s.isOwn = true → (σ.set i (some v))[m]? ≠ some (some (.ref p)) := fun p hp m s e ho z => by
            rcases get_set e with ⟨rfl, rfl⟩ | ⟨ne, e⟩
            · have hl : i < σ.length := by
                rw [R.len]
                have := (List.getElem?_eq_some_iff.mp e).1
                simpa using this
              rw [List.getElem?_set_self hl] at z
              cases z
              cases s with
              | own xs =>
                obtain ⟨p', vs, ep, _, _, _, hv, _⟩ := r1
                cases ep
                rw [hp] at hv; cases hv
              | un => cases ho
              | val d => cases ho
              | ownI cn ns ds => exact r1.elim
              | ownD ks ds => exact r1.elim
              | ownT ks ds => exact r1.elim
            · rw [List.getElem?_set_ne ne] at z
              exact R1.notOwn hp m s e ho z
          have Rb := Rel.setK (i := j) R1 W2 Ex.refl Ra r2 nw2
          exact p N2 c2 _ H2 (x12.sx R.wd W2) Rb
      · cases q
    · cases q
end
end LW

/-! LwM: defs that say repr (nothing is being shown around them); the end of a law. -/
namespace LW
open PySem L2 PyProof.Rows

/-- as FnOk, where nothing is being shown around the call -/
structure FnD (P : Program) (w : World) (K : PySem.W.Frag) (mg : Str → Option Value) (base : Heap) (k : Nat) (f : Addr) (fd : FuncData) (ps : List Str) (sp : Sp) : Prop where
  len : ∀ vs H Q E, sp vs H Q E → vs.length = ps.length
  run : ∀ (A : Around) (outer : List PySem.Env) (s : Shared) (H : Hp) (args : Args) (us : List Value) (vs : List V) (Q : VK) (E : XK), Room k A → A.guards = some [] → Env0 P w K mg base A outer s H → BindsTo s fd args (ps.zip us) → Vals vs us → sp vs H Q E →
    codeAny (model P w) A (.call (.ref f) args) (CR CX0 outer P w H s Q E) s
section
variable {P : Program} {w : World} {K : PySem.W.Frag} {mg : Str → Option Value} {base : Heap} {k : Nat} {f : Addr} {fd : FuncData} {ps : List Str} {sp : Sp}
theorem FnD.of (F : FnOk P w K mg base CX0 k f fd ps sp) : FnD P w K mg base k f fd ps sp := ⟨F.len, fun A outer s H args us vs Q E hr _ => F.run A outer s H args us vs Q E hr⟩
theorem fn_D {x qual : Str} {st : Stmt} {nm : List Str} (F : Fun K x qual st f fd) (S : FnScope nm ps (defScope st)) (len : ∀ vs H Q E, sp vs H Q E → vs.length = ps.length)
    (hbody : ∀ (cdv : Value) (A : Around) (outer : List PySem.Env) (s : Shared) (H : Hp) (vs : List V) (Q : VK) (E : XK), Room k (A.deeper (envOfC qual (defScope st) s.heap.objs.size f cdv)) → A.guards = some [] → sp vs H Q E →
      ∃ t, PSs (cxOf CX0 P w K mg base nm qual (defScope st) f cdv A outer s H E).nox (defBody st) t ∧ t { nx := fun _ H' => Q .non H', rt := Q } (L2.start nm vs) H) : FnD P w K mg base (k + 1) f fd ps sp := by
  obtain ⟨oc, od, kV, doc, pm, an, cdv, ct, osl, rfl, lk, hcd⟩ := F.ex
  refine ⟨len, fun A outer s H args us vs Q E hr hgd e0 hb r hsp => ?_⟩
  have hl : vs.length = ps.length := len _ _ _ _ hsp
  have inK : K.In s.heap := e0.mod.kin.keeps fun b o e => (e0.bs b o e).1
  have noL : s.heap.NoLimit := e0.mod.nolimit.keeps fun b o e => (e0.bs b o e).1
  have kinds : ∀ y ∈ ps.zip us, (defScope st).names.lookup y.1 = some .local ∨ ((defScope st).names.lookup y.1 = some .cell ∧ ((cellsFrom (s.heap.objs.size + 1) (defScope st).names []).lookup y.1).isSome = true) := by
    rintro ⟨n, v⟩ hy
    exact (S.par n (List.of_mem_zip hy).1).elim .inl fun q => .inr ⟨q, PySem.W.cellsFrom_some _ _ _ (.inl q)⟩
  refine codeAny_call_function hr.depth (inK _ _ lk) rfl S.co S.gen rfl (PySem.W.codeRec_of inK hcd) (hb _ _ _ _ ?_)
  refine wpAny_newFunctionEnv_cells S.kind kinds fun env he s1 z => ?_
  subst he
  refine ⟨noL.keeps z.toInCall.keep, codeAny_func ?_⟩
  obtain ⟨t, ht, hq⟩ := hbody cdv A outer s H vs Q E (hr.deeper _) hgd hsp
  have I := inv_start (CX := CX0) (E := E) S hr.hd e0 hl r z
  refine wpAny_mono (ht.nox.run [] s1 (L2.start nm vs) H _ I hq) (fun fl s' hs => ?_) fun e s' hs => hs
  cases fl with
  | ret u =>
    obtain ⟨v, σ', H', J, rv, q⟩ := hs
    exact ⟨v, H', J.os, J.bare, J.base, J.hok, rv, q⟩
  | next =>
    obtain ⟨σ', H', J, q⟩ := hs
    exact ⟨V.non, H', J.os, J.bare, J.base, J.hok, rfl, q⟩
  | brk => exact (hs.choose_spec.choose_spec.2 : False).elim
  | cont => exact (hs.choose_spec.choose_spec.2 : False).elim
theorem fn_MD {x qual : Str} {st : Stmt} {nm : List Str} {body : SS} (F : Fun K x qual st f fd) (S : FnScope nm ps (defScope st))
    (hbody : ∀ (cdv : Value) (A : Around) (outer : List PySem.Env) (s : Shared) (H : Hp) (E : XK), Room k (A.deeper (envOfC qual (defScope st) s.heap.objs.size f cdv)) → A.guards = some [] →
      PSs (cxOf CX0 P w K mg base nm qual (defScope st) f cdv A outer s H E).nox (defBody st) (tS ⟨mg, K⟩ body)) :
    FnD P w K mg base (k + 1) f fd ps (spM ⟨mg, K⟩ (fnM ps.length nm.length body) ps.length) := by
  refine fn_D F S (fun vs H Q E h => h.1) fun cdv A outer s H vs Q E hr hgd h => ⟨_, hbody cdv A outer s H E hr hgd, ?_⟩
  obtain ⟨_, N, c, ds, st0, d, st', W, r, q, kk⟩ := h
  unfold fnM at q
  split at q
  · rename_i hl
    have R := rel0 (nm := nm) W r
    split at q
    · rename_i d1 s1 q1
      cases q
      exact tS_def.mpr ⟨_, N, c, _, st0, _, _, R, q1, fun c' H' v fn => kk v _ c' H' (fn.ex W) fn.wd fn.rep⟩
    · rename_i e1 s1 q1
      cases q
      exact tS_def.mpr ⟨_, N, c, _, st0, _, _, R, q1, fun N' c' σ' H' sx R' => kk .non _ c' H' ((R'.fin .non).ex W) (R'.fin .non).wd (.non)⟩
    · cases q
  · cases q
end
section
variable {mg : Glob} {X : Cx} {k : Nat} {f C : Addr} {fd : FuncData} {ps : List Str} {g : FM} {n : Nat} {dvs : List V} {ds : List Value} {dd : List D} {x m : Str} {p pos apos : Pos} {e o : Expr} {es : List Expr} {fs : SA} {fo : SE}
/-- f(e, ..) of such a def -/
theorem d_callD (F : FnD X.prog X.w X.K X.mg X.base k f fd ps (spM mg g n)) (har : Ar n g) (hr : Room k X.A) (hgd : X.A.guards = some []) (hm : X.mg x = some (.ref f)) (hk : PySem.W.keepIn X.K (.ref f) = true) (hb : Binds X.K fd ps ds) (hd : Vals dvs ds) (hdd : Dfl mg dvs dd) (ha : PA X (e :: es) (tA mg fs))
    (hg : Gl X x := by rfl) (hdb : (x == ("__debug__" : Str)) = false := by decide) (he : starEach (e :: es) X.env = (false, eval e X.env) :: starEach es X.env := by rfl) (hpl : (backTo pos (starEach es X.env)).any (·.1) = false := by rfl) :
    PE X (.Call (.Name x p) (e :: es) [] pos) (tE mg (eCall g dd fs)) := by
  refine ⟨fun pins s σ H Q I h => ?_⟩
  have h2 : tCall (spM mg g n) dvs E0 (tA mg fs) σ H Q := r_call har hdd rfl h
  refine wpAny_Call_Name_kw (ld_glob I hg hm ?_ hdb)
  refine PySem.W.callWith_K (h₀ := X.base) I.ok.mod.kin hk (thn (ha.run pos pins s σ H _ I h2) fun us s1 ⟨vs, H1, I1, r, q⟩ => ⟨I1.kIn, ?_⟩) he hpl
  have r2 : Vals (vs ++ dvs) (us ++ ds) := r.append hd
  have hl : (us ++ ds).length = ps.length := r2.length.symm.trans (F.len _ _ _ _ q)
  refine wpAny_call (codeAny_mono (F.run X.A X.stack s1 H1 ⟨us, []⟩ (us ++ ds) (vs ++ dvs) Q E0 hr hgd I1.env0 (hb s1 us I1.kIn hl) r2 q) fun rr s' hq => ?_)
  cases rr with
  | error er => exact hq.elim
  | ok fl =>
    cases fl with
    | ret u => exact I1.after hq
    | next => exact hq.elim
    | brk => exact hq.elim
    | cont => exact hq.elim
end

/-! ### the end of a law -/
/-- the script as data -/
theorem rep_script {mg : Glob} {N : Prot} {c : List Addr} {H : Hp} {a : Addr} {ns : List Int} (hO : Only H) (hS : SqL mg.K H a (ns.map V.int)) (hN : ¬ N a) : Rep mg N c H (.ref a) (.fro (ns.map D.int)) := by
  rcases hS with (h | ⟨o, h⟩) | h
  · rcases hO a with z | ⟨o, xs, z⟩
    · rw [h] at z; cases z
    · rw [h] at z; cases z
  · exact .fro h hN (RepL.ints ns)
  · exact .kro fun H' => .inr h
theorem sp_law {mg : Glob} {g : FM} {H : Hp} {a : Addr} {ns : List Int} (hO : Only H) (hS : SqL mg.K H a (ns.map V.int)) {st' : Sto} (hg : g [.fro (ns.map D.int)] [] = some (.bl true, st')) : spM mg g 1 [.ref a] H (fun v _ => v = .bl true) fun _ _ _ => False := by
  refine ⟨rfl, fun _ => False, [], [.fro (ns.map D.int)], [], .bl true, st', ⟨rfl, fun k a xs h => by simp at h, fun a h => by simp at h, List.nodup_nil, fun a h => h.elim⟩, .cons (rep_script hO hS fun z => z) .nil, hg, fun v N' c' H' _ _ r => ?_⟩
  cases r
  rfl
/-- the law's call behind the top -/
theorem law_D {P : Program} {w : World} {K : PySem.W.Frag} {mg mb : Str → Option Value} {k : Nat} {fa a : Addr} {fd : FuncData} {x : Str} {sp : Sp} {s₁ : Shared} {vs : List Value} {ns : List Int}
    (KX : K.In s₁.heap) (hns : s₁.heap.Ns mainGlobals mg) (hb : s₁.heap.Ns builtinsNs mb) (hbb : ∀ x : Str, x ≠ "__name__" → mb x = bootBuiltins x) (hlim : s₁.heap.NoLimit) (hg : s₁.gens = #[])
    (ha : s₁.heap.get? a = some { cls := .type "list", data := .seq vs.toArray }) (hi : IntsAre vs ns) (hl : ns.length ≤ sizeLine) (hr : Room k callerA)
    (F : ∀ base : Heap, K.In base → base.Ns mainGlobals mg → FnD P w K mg base k fa fd [x] sp) (hbind : ∀ (s : Shared) (u : Value), BindsTo s fd ⟨[u], []⟩ [(x, u)])
    (hsp : ∀ H : Hp, Only H → SqL K H a (ns.map V.int) → sp [.ref a] H (fun v _ => v = .bl true) fun _ _ _ => False) :
    codeAny (model P w) callerA (.call (.ref fa) ⟨[.ref a], []⟩) (fun r s' => r = .ok (.ret (.bool true)) ∧ OldK s₁.heap s'.heap ∧ s'.os = s₁.os ∧ AllBare s'.gens) s₁ := by
  have rv := vals_ints hi
  have lv := hi.length
  -- the script is tracked, frozen, unless it is an object of the module
  let ob : Obj := { cls := .type "list", data := .seq vs.toArray }
  let H : Hp := fun b => if b = a ∧ K.lookup a = none then some (.frz ob (.lst (ns.map V.int))) else none
  have hH : ∀ b u, H b = some u → b = a ∧ K.lookup a = none ∧ u = .frz ob (.lst (ns.map V.int)) := fun b u e => by
    by_cases q : b = a ∧ K.lookup a = none
    · have e' := (if_pos q).symm.trans e
      cases e'
      exact ⟨q.1, q.2, rfl⟩
    · have e' := (if_neg q).symm.trans e
      cases e'
  have hO : Only H := fun b => by
    by_cases q : b = a ∧ K.lookup a = none
    · exact .inr ⟨_, _, if_pos q⟩
    · exact .inl (if_neg q)
  have hS : SqL K H a (ns.map V.int) := by
    cases hk : K.lookup a with
    | none => exact .inl (.inr ⟨ob, if_pos ⟨rfl, hk⟩⟩)
    | some o =>
      have e := KX a o hk
      rw [ha] at e
      cases e
      exact .inr ⟨_, vs.toArray, _, hk, rfl, rfl, rfl, by rw [List.size_toArray, lv]; exact hl, by simpa using rv⟩
  have hok : HOk P w H s₁.heap := fun b u e => by
    obtain ⟨rfl, _, rfl⟩ := hH b u e
    exact ⟨ha, by rw [List.length_map]; exact hl, vs, _, rv, ha⟩
  -- namespaces and the written part are not tracked
  have dictFree : ∀ {b : Addr} {o : Obj} {es : Array DictEntry} {ep : Nat}, s₁.heap.get? b = some o → o.data = .dict es ep → H b = none := fun {b o es ep} e d => by
    cases q : H b with
    | none => rfl
    | some u =>
      obtain ⟨rfl, _, _⟩ := hH b u q
      rw [ha] at e
      cases e
      cases (show Data.seq vs.toArray _ = Data.dict es ep from d)
  have nsK : ∀ {b : Addr} {m : Str → Option Value}, s₁.heap.Ns b m → (hidT s₁.heap H).Ns b m := fun {b m} ⟨o, es, ep, e, d, r⟩ => ⟨o, es, ep, hidT_get e (dictFree e d), d, r⟩
  have kb : K.In (hidT s₁.heap H) := fun b o e => hidT_get (KX b o e) (by
    cases q : H b with
    | none => rfl
    | some u =>
      obtain ⟨rfl, z, _⟩ := hH b u q
      have e' : K.lookup b = some o := e
      rw [z] at e'; cases e')
  have md : Mod K mg (hidT s₁.heap H) := ⟨kb, nsK hns, ⟨mb, nsK hb, hbb⟩, let ⟨mc, h1, h2⟩ := hlim; ⟨mc, nsK h1, h2⟩⟩
  have e0 : Env0 P w K mg (hidT s₁.heap H) callerA [] s₁ H := ⟨rfl, md, fun b o e => of_hidT e, Nat.le_of_eq (hidT_size _ _), trivial, fun b z => absurd z (by simp [frs]), hok, .of_eq hg⟩
  refine codeAny_mono ((F _ kb (nsK hns)).run callerA [] s₁ H ⟨[.ref a], []⟩ [.ref a] [.ref a] _ _ hr rfl e0 (hbind s₁ (.ref a)) (.cons rfl .nil) (hsp H hO hS)) fun r s' h => ?_
  cases r with
  | error e => exact h.elim
  | ok fl =>
    cases fl with
    | next => exact h.elim
    | brk => exact h.elim
    | cont => exact h.elim
    | ret u =>
      obtain ⟨v, H', os, bare, un, hok', r', q⟩ := h
      subst q
      obtain rfl : u = Value.bool true := r'
      refine ⟨rfl, OldK.of_keep fun b o e => ?_, os, bare⟩
      cases q : H b with
      | none => exact un.keep b o e q (by simp [frs]) (by simp)
      | some u =>
        obtain ⟨rfl, hk, rfl⟩ := hH b u q
        have z2 := un.frzs b ob _ q
        obtain ⟨e1, _⟩ := hok b _ q
        obtain ⟨e2, _⟩ := hok' b _ z2
        rw [e] at e1
        cases e1
        exact e2
end LW

/-! LwN: short words: a def, a method, a class, with where it stands. -/
namespace LW
open PySem L2 PyProof.Rows

section
variable (P : Program) (w : World) (K : PySem.W.Frag) (mg : Str → Option Value) (base : Heap)
/-- the def x of the module, as the top has left it -/
def FT (x : Str) (st : Stmt) : Prop := ∃ f fd, mg x = some (.ref f) ∧ Fun K x x st f fd
/-- .. with defaults -/
def FTd (x : Str) (st : Stmt) (dvs : List V) : Prop := ∃ f fd, mg x = some (.ref f) ∧ FunD K x x (defArgs st) (defBody st) (defScope st) dvs [] f fd
/-- the method m of the class at C -/
def MT (C : Addr) (m qual : Str) (st : Stmt) : Prop := ∃ f fd, Meth K C m f ∧ Fun K m qual st f fd
/-- the def x keeps the promise of g -/
def OkF (k : Nat) (x : Str) (ps : List Str) (g : FM) : Prop := ∃ f fd, mg x = some (.ref f) ∧ PySem.W.keepIn K (.ref f) = true ∧ FnOk P w K mg base CX0 k f fd ps (spM ⟨mg, K⟩ g ps.length) ∧ Binds K fd ps [] ∧ Ar ps.length g
def OkD (k : Nat) (x : Str) (ps : List Str) (g : FM) : Prop := ∃ f fd, mg x = some (.ref f) ∧ PySem.W.keepIn K (.ref f) = true ∧ FnD P w K mg base k f fd ps (spM ⟨mg, K⟩ g ps.length) ∧ Binds K fd ps [] ∧ Ar ps.length g
/-- .. called with n arguments, the rest by defaults -/
def OkFd (k : Nat) (x : Str) (ps : List Str) (n : Nat) (dvs : List V) (g : FM) : Prop := ∃ f fd ds, mg x = some (.ref f) ∧ PySem.W.keepIn K (.ref f) = true ∧ FnOk P w K mg base CX0 k f fd ps (spM ⟨mg, K⟩ g ps.length) ∧ Vals dvs ds ∧ Binds K fd ps ds ∧ Ar ps.length g
def OkM (k : Nat) (C : Addr) (m : Str) (ps : List Str) (g : FM) : Prop := ∃ f fd, Meth K C m f ∧ FnOk P w K mg base CX0 k f fd ps (spM ⟨mg, K⟩ g ps.length) ∧ Binds K fd ps [] ∧ Ar ps.length g
/-- the class cn is made by an __init__ that reckons g -/
def OkC (k : Nat) (cn : Str) (C : Addr) (n : Nat) (ps : List Str) (g : FI) : Prop := ∃ f fd, Mk K C f ∧ FnOk P w K mg base CX0 k f fd ps (spI ⟨mg, K⟩ cn g n) ∧ Binds K fd ps [] ∧ ArI n g
end
section
variable {P : Program} {w : World} {K : PySem.W.Frag} {mg : Str → Option Value} {base : Heap} {k : Nat} {x m qual cn : Str} {st : Stmt} {nm ps : List Str} {body : SS} {C : Addr}
theorem okF_mk (F : FT K mg x st) (S : FnScope nm ps (defScope st))
    (hb : ∀ (kV doc pm : Value) (an : Option Addr) (cdv ct : Value) (us : List Value), us.length = ps.length → bindArgs (PySem.W.fnOf x x (defArgs st) (defBody st) (defScope st) .none kV doc pm an cdv ct) ⟨us, []⟩ = pure (ps.zip us))
    (hbody : ∀ (f : Addr) (cdv : Value) (A : Around) (outer : List PySem.Env) (s : Shared) (H : Hp) (E : XK), Room k (A.deeper (envOfC x (defScope st) s.heap.objs.size f cdv)) →
      PSs (cxOf CX0 P w K mg base nm x (defScope st) f cdv A outer s H E).nox (defBody st) (tS ⟨mg, K⟩ body)) : OkF P w K mg base (k + 1) x ps (fnM ps.length nm.length body) := by
  obtain ⟨f, fd, hm, F⟩ := F
  exact ⟨f, fd, hm, F.kp, fn_M F S fun cdv A outer s H E hr => hbody f cdv A outer s H E hr, F.binds hb, fnM_ar⟩
theorem okD_mk (F : FT K mg x st) (S : FnScope nm ps (defScope st))
    (hb : ∀ (kV doc pm : Value) (an : Option Addr) (cdv ct : Value) (us : List Value), us.length = ps.length → bindArgs (PySem.W.fnOf x x (defArgs st) (defBody st) (defScope st) .none kV doc pm an cdv ct) ⟨us, []⟩ = pure (ps.zip us))
    (hbody : ∀ (f : Addr) (cdv : Value) (A : Around) (outer : List PySem.Env) (s : Shared) (H : Hp) (E : XK), Room k (A.deeper (envOfC x (defScope st) s.heap.objs.size f cdv)) → A.guards = some [] →
      PSs (cxOf CX0 P w K mg base nm x (defScope st) f cdv A outer s H E).nox (defBody st) (tS ⟨mg, K⟩ body)) : OkD P w K mg base (k + 1) x ps (fnM ps.length nm.length body) := by
  obtain ⟨f, fd, hm, F⟩ := F
  exact ⟨f, fd, hm, F.kp, fn_MD F S fun cdv A outer s H E hr hg => hbody f cdv A outer s H E hr hg, F.binds hb, fnM_ar⟩
theorem OkF.d (h : OkF P w K mg base k x ps g) : OkD P w K mg base k x ps g := by
  obtain ⟨f, fd, h1, h2, h3, h4, h5⟩ := h
  exact ⟨f, fd, h1, h2, FnD.of h3, h4, h5⟩
theorem okFd_mk {dvs : List V} {n j : Nat} (F : FTd K mg x st dvs) (S : FnScope nm ps (defScope st)) (hd : dvs ≠ []) (hn : n + (dvs.length - j) = ps.length)
    (hb : ∀ (T : Addr) (kV doc pm : Value) (an : Option Addr) (cdv ct : Value) (us its : List Value), us.length = n → its.length = dvs.length →
      ∃ k, bindArgs (PySem.W.fnOf x x (defArgs st) (defBody st) (defScope st) (.ref T) kV doc pm an cdv ct) ⟨us, []⟩ = seqItems? (.ref T) >>= k ∧ k (some its.toArray) = pure (ps.zip (us ++ its.drop j)))
    (hbody : ∀ (f : Addr) (cdv : Value) (A : Around) (outer : List PySem.Env) (s : Shared) (H : Hp) (E : XK), Room k (A.deeper (envOfC x (defScope st) s.heap.objs.size f cdv)) →
      PSs (cxOf CX0 P w K mg base nm x (defScope st) f cdv A outer s H E).nox (defBody st) (tS ⟨mg, K⟩ body)) : OkFd P w K mg base (k + 1) x ps n (dvs.drop j) (fnM ps.length nm.length body) := by
  obtain ⟨f, fd, hm, F⟩ := F
  obtain ⟨ds, hv, hB⟩ := F.binds1 n j hd hn hb
  refine ⟨f, fd, ds, hm, F.kp, ?_, hv, hB, fnM_ar⟩
  refine F.ok (CX := CX0) S (fun vs H Q E h => h.1) fun cdv A outer s H vs Q E hr h => ⟨_, (hbody f cdv A outer s H E hr).nox, ?_⟩
  obtain ⟨_, N, c, ds, st0, d, st', W, r, q, kk⟩ := h
  unfold fnM at q
  split at q
  · rename_i hl
    have R := rel0 (nm := nm) W r
    split at q
    · rename_i d1 s1 q1
      cases q
      exact tS_def.mpr ⟨_, N, c, _, st0, _, _, R, q1, fun c' H' v fn => kk v _ c' H' (fn.ex W) fn.wd fn.rep⟩
    · rename_i e1 s1 q1
      cases q
      exact tS_def.mpr ⟨_, N, c, _, st0, _, _, R, q1, fun N' c' σ' H' sx R' => kk .non _ c' H' ((R'.fin .non).ex W) (R'.fin .non).wd (.non)⟩
    · cases q
  · cases q
theorem okM_mk (F : MT K C m qual st) (S : FnScope nm ps (defScope st))
    (hb : ∀ (kV doc pm : Value) (an : Option Addr) (cdv ct : Value) (us : List Value), us.length = ps.length → bindArgs (PySem.W.fnOf m qual (defArgs st) (defBody st) (defScope st) .none kV doc pm an cdv ct) ⟨us, []⟩ = pure (ps.zip us))
    (hbody : ∀ (f : Addr) (cdv : Value) (A : Around) (outer : List PySem.Env) (s : Shared) (H : Hp) (E : XK), Room k (A.deeper (envOfC qual (defScope st) s.heap.objs.size f cdv)) →
      PSs (cxOf CX0 P w K mg base nm qual (defScope st) f cdv A outer s H E).nox (defBody st) (tS ⟨mg, K⟩ body)) : OkM P w K mg base (k + 1) C m ps (fnM ps.length nm.length body) := by
  obtain ⟨f, fd, hm, F⟩ := F
  exact ⟨f, fd, hm, fn_M F S fun cdv A outer s H E hr => hbody f cdv A outer s H E hr, F.binds hb, fnM_ar⟩
theorem okC_mk {n : Nat} (F : ∃ f fd, Mk K C f ∧ Fun K "__init__" qual st f fd) (S : FnScope nm ps (defScope st)) (hn : ps.length = n + 1) (hm : nm.length = nm.length - 1 + 1)
    (hb : ∀ (kV doc pm : Value) (an : Option Addr) (cdv ct : Value) (us : List Value), us.length = ps.length → bindArgs (PySem.W.fnOf "__init__" qual (defArgs st) (defBody st) (defScope st) .none kV doc pm an cdv ct) ⟨us, []⟩ = pure (ps.zip us))
    (hbody : ∀ (f : Addr) (cdv : Value) (A : Around) (outer : List PySem.Env) (s : Shared) (H : Hp) (E : XK), Room k (A.deeper (envOfC qual (defScope st) s.heap.objs.size f cdv)) →
      PSs (cxOf CX0 P w K mg base nm qual (defScope st) f cdv A outer s H E).nox (defBody st) (tS ⟨mg, K⟩ body)) : OkC P w K mg base (k + 1) cn C n ps (initM cn n nm.length body) := by
  obtain ⟨f, fd, hM, F⟩ := F
  exact ⟨f, fd, hM, fn_I F S hn hm fun cdv A outer s H E hr => hbody f cdv A outer s H E hr, F.binds hb, initM_ar⟩
end

/-! ### calls -/
section
variable {X : Cx} {k : Nat} {C : Addr} {ps : List Str} {g : FM} {gi : FI} {n : Nat} {dvs : List V} {dd : List D} {x m cn : Str} {p pos apos : Pos} {e o a b : Expr} {es : List Expr} {fs : SA} {fo fa fb : SE}
theorem c_call (h : OkF X.prog X.w X.K X.mg X.base k x ps g) (hr : Room k X.A) (ha : PA X (e :: es) (tA ⟨X.mg, X.K⟩ fs)) (hg : Gl X x := by rfl) (hdb : (x == ("__debug__" : Str)) = false := by decide) (he : starEach (e :: es) X.env = (false, eval e X.env) :: starEach es X.env := by rfl) (hpl : (backTo pos (starEach es X.env)).any (·.1) = false := by rfl) :
    PE X (.Call (.Name x p) (e :: es) [] pos) (tE ⟨X.mg, X.K⟩ (eCall g [] fs)) := by
  obtain ⟨f, fd, hm, hk, F, hb, ar⟩ := h
  exact d_call F ar hr hm hk hb .nil dfl_nil ha hg hdb he hpl
theorem c_callD (h : OkD X.prog X.w X.K X.mg X.base k x ps g) (hr : Room k X.A) (hgd : X.A.guards = some []) (ha : PA X (e :: es) (tA ⟨X.mg, X.K⟩ fs)) (hg : Gl X x := by rfl) (hdb : (x == ("__debug__" : Str)) = false := by decide) (he : starEach (e :: es) X.env = (false, eval e X.env) :: starEach es X.env := by rfl) (hpl : (backTo pos (starEach es X.env)).any (·.1) = false := by rfl) :
    PE X (.Call (.Name x p) (e :: es) [] pos) (tE ⟨X.mg, X.K⟩ (eCall g [] fs)) := by
  obtain ⟨f, fd, hm, hk, F, hb, ar⟩ := h
  exact d_callD F ar hr hgd hm hk hb .nil dfl_nil ha hg hdb he hpl
theorem c_calld (h : OkFd X.prog X.w X.K X.mg X.base k x ps n dvs g) (hd : Dfl ⟨X.mg, X.K⟩ dvs dd) (hr : Room k X.A) (ha : PA X (e :: es) (tA ⟨X.mg, X.K⟩ fs)) (hg : Gl X x := by rfl) (hdb : (x == ("__debug__" : Str)) = false := by decide) (he : starEach (e :: es) X.env = (false, eval e X.env) :: starEach es X.env := by rfl) (hpl : (backTo pos (starEach es X.env)).any (·.1) = false := by rfl) :
    PE X (.Call (.Name x p) (e :: es) [] pos) (tE ⟨X.mg, X.K⟩ (eCall g dd fs)) := by
  obtain ⟨f, fd, ds, hm, hk, F, hv, hb, ar⟩ := h
  exact d_call F ar hr hm hk hb hv hd ha hg hdb he hpl
theorem c_meth (h : OkM X.prog X.w X.K X.mg X.base k C m ps g) (hC : X.mg cn = some (.ref C)) (cl : Cls X.K C) (hr : Room k X.A) (ho : PE X o (tE ⟨X.mg, X.K⟩ fo)) (ha : PA X (e :: es) (tA ⟨X.mg, X.K⟩ fs))
    {pl : Sem Bool} (hst : starEach (e :: es) X.env = (false, eval e X.env) :: starEach es X.env := by rfl) (hpl : (backTo pos (starEach es X.env)).any (·.1) = false := by rfl)
    (ht : eval (.Call (.Attribute o m apos) (e :: es) [] pos) X.env = (do
      let ov ← eval o X.env
      standAt apos.atName
      let (f, first) ← holding [ov] (getMethod ov m pl)
      callWith pos f first (backTo pos (starEach (e :: es) X.env)) (backToKw pos (keywordEach [] X.env))) := by rfl) :
    PE X (.Call (.Attribute o m apos) (e :: es) [] pos) (tE ⟨X.mg, X.K⟩ (eMeth cn m g [] fo fs)) := by
  obtain ⟨f, fd, hm, F, hb, ar⟩ := h
  exact d_meth ho hC cl hm F ar hr hb .nil dfl_nil ha hst hpl ht
theorem c_meth0 (h : OkM X.prog X.w X.K X.mg X.base k C m ps g) (hC : X.mg cn = some (.ref C)) (cl : Cls X.K C) (hr : Room k X.A) (ho : PE X o (tE ⟨X.mg, X.K⟩ fo))
    {pl : Sem Bool} (ht : eval (.Call (.Attribute o m apos) [] [] pos) X.env = (do
      let ov ← eval o X.env
      standAt apos.atName
      let (f, first) ← holding [ov] (getMethod ov m pl)
      callWith pos f first (backTo pos (starEach [] X.env)) (backToKw pos (keywordEach [] X.env))) := by rfl) :
    PE X (.Call (.Attribute o m apos) [] [] pos) (tE ⟨X.mg, X.K⟩ (eMeth cn m g [] fo aNil)) := by
  obtain ⟨f, fd, hm, F, hb, ar⟩ := h
  exact d_meth0 ho hC cl hm F ar hr hb .nil dfl_nil ht
theorem c_make (h : OkC X.prog X.w X.K X.mg X.base k x C n ps gi) (hC : X.mg x = some (.ref C)) (hr : Room (k + 1) X.A) (ha : PA X (e :: es) (tA ⟨X.mg, X.K⟩ fs)) (hg : Gl X x := by rfl) (hdb : (x == ("__debug__" : Str)) = false := by decide) (he : starEach (e :: es) X.env = (false, eval e X.env) :: starEach es X.env := by rfl) (hpl : (backTo pos (starEach es X.env)).any (·.1) = false := by rfl) :
    PE X (.Call (.Name x p) (e :: es) [] pos) (tE ⟨X.mg, X.K⟩ (eMake x gi [] fs)) := by
  obtain ⟨f, fd, M, F, hb, ar⟩ := h
  exact d_make M F ar hr hC hb .nil dfl_nil ha rfl hg hdb he hpl
/-- a class with an own __eq__ -/
structure EqF (X : Cx) (k : Nat) (C : Addr) (cs : List Str) (g : FM) : Prop where
  isi : Isi ⟨X.mg, X.K⟩ cs
  nf : NotF ⟨X.mg, X.K⟩ cs C
  ne : PySem.W.findIn X.K (.ref C) "__ne__" = some (some (.builtin "object.__ne__"))
  ob : PySem.W.mroIn X.K C (.type "object") = some true
  eq : ∃ ps, ps.length = 2 ∧ OkM X.prog X.w X.K X.mg X.base k C "__eq__" ps g
theorem c_ne {cs : List Str} (h : EqF X k C cs g) (hC : X.mg cn = some (.ref C)) (hr : Room (k + 1) X.A) (ha : PE X a (tE ⟨X.mg, X.K⟩ fa)) (hb' : PE X b (tE ⟨X.mg, X.K⟩ fb)) : PE X (.Compare a [.NotEq] [b] pos) (tE ⟨X.mg, X.K⟩ (eOwn cn cs true g fa fb)) := by
  obtain ⟨ps, hl, f, fd, hm, F, hb, ar⟩ := h.eq
  rw [hl] at F ar
  exact d_neO ha hb' hC h.isi h.nf F ar hr h.ne h.ob hm.at_ hm.fn hb
/-- n.bit_length() -/
def eBits (f : SE) : SE := fun env st => match f env st with
  | some (.int i, s1) => some (.int (Builtin.Int.intBits i : Nat), s1)
  | _ => none
end
theorem d_bits {mg : Glob} {X : Cx} {o : Expr} {fo : SE} {apos pos : Pos} (ho : PE X o (tP mg fo)) (hbase : attributeBase o "bit_length" X.env (eval o X.env) = eval o X.env := by rfl) (hline : (apos.endLine == pos.line) = true := by rfl) : PE X (.Call (.Attribute o "bit_length" apos) [] [] pos) (tE mg (eBits fo)) :=
  pe_weak (pe_bits ho hbase hline) fun σ H Q ⟨E, N, c, env, st, d, st', R, q, k⟩ => by
    unfold eBits at q
    split at q
    · rename_i i s1 q1
      cases q
      exact ⟨E, N, c, env, st, _, _, R, q1, fun v N1 c1 H1 x1 W1 r1 => ⟨i, r1.int, k _ N1 c1 H1 x1 W1 (.int _)⟩⟩
    · cases q
end LW

/-! LwO: from what the head has written to the words of LwN. -/
namespace LW
open PySem L2 PyProof.Rows
section
variable {P : Program} {w : World} {K : PySem.W.Frag} {mg : Str → Option Value} {base h : Heap} {x m qual cn : Str} {st : Stmt} {f p C T : Addr} {oc kV doc pm cdv ct : Value} {od an : Option Addr} {osl : Array (Option Value)} {rest : List Value}
theorem cf_mk (pg : PySem.W.plainGet K C Str.empty = true) (hd : PySem.W.hasDictIn K C = true) (po : PySem.W.plainOver K C = true) (sa : PySem.W.findIn K (.ref C) "__setattr__" = some (some (.builtin "object.__setattr__")))
    (ha : PySem.W.findIn K (.ref C) "__class__" = some (some (.builtin "object.__class__"))) (hn : PySem.W.specialIn K (.builtin "object.__class__") "__get__" = some (some (.builtin "getset_descriptor.__get__")))
    (htk : PySem.W.takesIn K (.builtin "object.__class__") = some true) (hm : PySem.W.mroIn K C (.type "object") = some true) : CF K C := ⟨⟨pg, hd, po, sa⟩, ha, hn, htk, hm⟩
theorem isi1_mk (hC : mg cn = some (.ref C)) (cf : CF K C) (oo : PySem.W.kitOne K (.ref C) (.ref C) = some true) (b1 : PySem.W.kitOne K (.type "int") (.ref C) = some false) (b2 : PySem.W.kitOne K (.type "str") (.ref C) = some false) (b3 : PySem.W.kitOne K (.type "list") (.ref C) = some false)
    (b4 : PySem.W.kitOne K (.type "tuple") (.ref C) = some false) (b5 : PySem.W.kitOne K (.type "dict") (.ref C) = some false) (b6 : PySem.W.kitOne K (.type "bool") (.ref C) = some false) (b7 : PySem.W.kitOne K (.type "NoneType") (.ref C) = some false)
    (d1 : PySem.W.kitOne K (.ref C) (.type "int") = some false) (d2 : PySem.W.kitOne K (.ref C) (.type "str") = some false) (d3 : PySem.W.kitOne K (.ref C) (.type "list") = some false) (d4 : PySem.W.kitOne K (.ref C) (.type "tuple") = some false) (d5 : PySem.W.kitOne K (.ref C) (.type "dict") = some false)
    (d6 : PySem.W.kitOne K (.ref C) (.type "bool") = some false) : Isi ⟨mg, K⟩ [cn] where
  cf n C' h hn := by
    cases List.mem_singleton.mp h
    cases hC.symm.trans hn
    exact cf
  oo n m C1 C2 h h' hn hm := by
    cases List.mem_singleton.mp h
    cases List.mem_singleton.mp h'
    cases hC.symm.trans hn
    cases hC.symm.trans hm
    rw [oo]; simp
  bo t m C' h hn := by
    cases List.mem_singleton.mp h
    cases hC.symm.trans hn
    cases t <;> assumption
  ob n C' t h hn ne := by
    cases List.mem_singleton.mp h
    cases hC.symm.trans hn
    cases t <;> first | assumption | exact absurd rfl ne
/-- law itself -/
theorem fn_end {nm : List Str} {par : Str} {fa : Addr} {k : Nat} {body : SS} (F : FT K mg x st) (hfa : mg x = some (.ref fa)) (S : FnScope nm [par] (defScope st))
    (hb : ∀ (kV doc pm : Value) (an : Option Addr) (cdv ct u : Value), bindArgs (PySem.W.fnOf x x (defArgs st) (defBody st) (defScope st) .none kV doc pm an cdv ct) ⟨[u], []⟩ = pure [(par, u)])
    (hbody : ∀ (base : Heap) (f : Addr) (cdv : Value) (A : Around) (outer : List PySem.Env) (s : Shared) (H : Hp) (E : XK), Room k (A.deeper (envOfC x (defScope st) s.heap.objs.size f cdv)) → A.guards = some [] →
      PSs (cxOf CX0 P w K mg base nm x (defScope st) f cdv A outer s H E).nox (defBody st) (tS ⟨mg, K⟩ body)) :
    ∃ fd : FuncData, (∀ (s : Shared) (u : Value), BindsTo s fd ⟨[u], []⟩ [(par, u)]) ∧ ∀ base : Heap, FnD P w K mg base (k + 1) fa fd [par] (spM ⟨mg, K⟩ (fnM 1 nm.length body) 1) := by
  obtain ⟨f, fd, hm, F⟩ := F
  cases hfa.symm.trans hm
  refine ⟨fd, fun s u => ?_, fun base => fn_MD F S fun cdv A outer s H E hr hg => hbody base fa cdv A outer s H E hr hg⟩
  obtain ⟨_, _, kV, doc, pm, an, cdv, ct, _, rfl, _, _⟩ := F.ex
  exact .of_eq (hb kV doc pm an cdv ct u)
end
end LW

/-! LwP: how a mirror runs, told backwards. -/
namespace LW
open PySem L2
inductive Ok {α : Type} (o : Option (α × Sto)) (Q : α → Sto → Prop) : Prop where
  | mk (a : α) (s : Sto) (e : o = some (a, s)) (h : Q a s)
inductive Od {α : Type} (o : Option α) (Q : α → Prop) : Prop where
  | mk (a : α) (e : o = some a) (h : Q a)
@[reducible] def AsB : D → (Bool → Prop) → Prop
  | .bl b, Q => Q b
  | _, _ => False
@[reducible] def AsI : D → (Int → Prop) → Prop
  | .int b, Q => Q b
  | _, _ => False
@[reducible] def AsK : D → (Nat → Prop) → Prop
  | .cell b, Q => Q b
  | _, _ => False
@[reducible] def AsO : D → (Str → List Str → List D → Prop) → Prop
  | .obj c n v, Q => Q c n v
  | _, _ => False
theorem AsB.of {d : D} {Q : Bool → Prop} (h : AsB d Q) : ∃ b, d = .bl b ∧ Q b := by
  cases d <;> first | exact ⟨_, rfl, h⟩ | exact h.elim
theorem AsI.of {d : D} {Q : Int → Prop} (h : AsI d Q) : ∃ b, d = .int b ∧ Q b := by
  cases d <;> first | exact ⟨_, rfl, h⟩ | exact h.elim
theorem AsK.of {d : D} {Q : Nat → Prop} (h : AsK d Q) : ∃ b, d = .cell b ∧ Q b := by
  cases d <;> first | exact ⟨_, rfl, h⟩ | exact h.elim
theorem AsO.of {d : D} {Q : Str → List Str → List D → Prop} (h : AsO d Q) : ∃ a b c, d = .obj a b c ∧ Q a b c := by
  cases d <;> first | exact ⟨_, _, _, rfl, h⟩ | exact h.elim
theorem b_dec {p : Prop} [Decidable p] {A B : Prop} (h1 : p → A) (h2 : ¬ p → B) : if decide p = true then A else B := by
  by_cases h : p
  · rw [decide_eq_true h, if_pos rfl]
    exact h1 h
  · rw [decide_eq_false h, if_neg Bool.false_ne_true]
    exact h2 h
theorem b_t {b : Bool} {A B : Prop} (h : b = true) (h1 : A) : if b = true then A else B := by rw [if_pos h]; exact h1
theorem b_f {b : Bool} {A B : Prop} (h : b = false) (h1 : B) : if b = true then A else B := by rw [h, if_neg Bool.false_ne_true]; exact h1
theorem Ok.mono {α : Type} {o : Option (α × Sto)} {Q R : α → Sto → Prop} (h : Ok o Q) (k : ∀ a s, Q a s → R a s) : Ok o R := by
  obtain ⟨a, s, e, q⟩ := h
  exact ⟨a, s, e, k a s q⟩
theorem Ok.eq {α : Type} {o : Option (α × Sto)} {a : α} {s : Sto} (h : Ok o fun x t => x = a ∧ t = s) : o = some (a, s) := by
  obtain ⟨_, _, e, rfl, rfl⟩ := h
  exact e
theorem Ok.use {α : Type} {o : Option (α × Sto)} {a : α} {s : Sto} {Q : α → Sto → Prop} (e : o = some (a, s)) (h : Q a s) : Ok o Q := ⟨a, s, e, h⟩
section
variable {env : Env} {st : Sto} {Q : D → Sto → Prop} {QB : Bool → Sto → Prop} {QL : List D → Sto → Prop} {QS : Out → Sto → Prop} {i : Nat} {d : D} {fa fb fe : SE} {fs gs : SA} {fl : Fx (List D)} {ta tb : SB} {xs : List D}
theorem z_var (e : env[i]? = some (.val d)) (h : Q d st) : Ok (eVar i env st) Q := ⟨d, st, by unfold eVar; rw [e], h⟩
theorem z_pk (e : env[i]? = some (.val d)) (h : Q d st) : Ok (ePeek i env st) Q := ⟨d, st, by unfold ePeek; rw [e], h⟩
theorem z_pkO (e : env[i]? = some (.own xs)) (h : Q (.lst xs) st) : Ok (ePeek i env st) Q := ⟨_, st, by unfold ePeek; rw [e], h⟩
theorem z_c (h : Q d st) : Ok (eC d env st) Q := ⟨d, st, rfl, h⟩
theorem z_op {α : Type} {op : D → D → Sto → Option α} {Q : α → Sto → Prop} (h : Ok (fa env st) fun x s1 => Ok (fb env s1) fun y s2 => Od (op x y s2) fun d => Q d s2) : Ok (eOp op fa fb env st) Q := by
  obtain ⟨x, s1, e1, y, s2, e2, d, e3, q⟩ := h
  exact ⟨d, s2, by unfold eOp; rw [e1]; dsimp only; rw [e2]; dsimp only; rw [e3], q⟩
theorem z_nil (h : QL [] st) : Ok (aNil env st) QL := ⟨_, st, rfl, h⟩
theorem z_cons (h : Ok (fe env st) fun d s1 => Ok (fs env s1) fun ds s2 => QL (d :: ds) s2) : Ok (aCons fe fs env st) QL := by
  obtain ⟨x, s1, e1, y, s2, e2, q⟩ := h
  exact ⟨_, s2, by unfold aCons; rw [e1]; dsimp only; rw [e2], q⟩
theorem z_tup (h : Ok (fs env st) fun ds s => ds.length ≤ 1000000 ∧ Q (.tup ds) s) : Ok (eTup fs env st) Q := by
  obtain ⟨x, s1, e1, l, q⟩ := h
  exact ⟨_, s1, by unfold eTup; rw [e1]; dsimp only; rw [if_pos l], q⟩
theorem z_lst (h : Ok (fs env st) fun ds s => ds.length ≤ 1000000 ∧ QL ds s) : Ok (lDisp fs env st) QL := by
  obtain ⟨x, s1, e1, l, q⟩ := h
  exact ⟨_, s1, by unfold lDisp; rw [e1]; dsimp only; rw [if_pos l], q⟩
theorem z_L (h : Ok (fl env st) fun ds s => Q (.lst ds) s) : Ok (eL fl env st) Q := by
  obtain ⟨x, s1, e1, q⟩ := h
  exact ⟨_, s1, by unfold eL; rw [e1]; rfl, q⟩
theorem z_bi {α : Type} {g : List D → Sto → Option α} {Q : α → Sto → Prop} (h : Ok (fs env st) fun ds s => Od (g ds s) fun d => Q d s) : Ok (eBi g fs env st) Q := by
  obtain ⟨x, s1, e1, d, e2, q⟩ := h
  exact ⟨d, s1, by unfold eBi; rw [e1]; dsimp only; rw [e2], q⟩
theorem z_call {g : FM} {dd : List D} (h : Ok (fs env st) fun ds s => Ok (g (ds ++ dd) s) Q) : Ok (eCall g dd fs env st) Q := by
  obtain ⟨x, s1, e1, d, s2, e2, q⟩ := h
  exact ⟨d, s2, by unfold eCall; rw [e1]; exact e2, q⟩
theorem z_meth {cn m : Str} {g : FM} {dd : List D} (h : Ok (fe env st) fun o s1 => AsO o fun c ns vs => c = cn ∧ ¬ m ∈ ns ∧ Ok (fs env s1) fun ds s2 => Ok (g (.obj c ns vs :: (ds ++ dd)) s2) Q) : Ok (eMeth cn m g dd fe fs env st) Q := by
  obtain ⟨o, s1, e1, h⟩ := h
  obtain ⟨c, ns, vs, rfl, rfl, hm, ds, s2, e2, d, s3, e3, q⟩ := h.of
  exact ⟨d, s3, by unfold eMeth; rw [e1]; dsimp only; rw [if_pos ⟨rfl, hm⟩, e2]; exact e3, q⟩
theorem z_prop {cn : Str} {g : FM} (h : Ok (fe env st) fun o s1 => AsO o fun c ns vs => c = cn ∧ Ok (g [.obj c ns vs] s1) Q) : Ok (eProp cn g fe env st) Q := by
  obtain ⟨o, s1, e1, h⟩ := h
  obtain ⟨c, ns, vs, rfl, rfl, d, s3, e3, q⟩ := h.of
  exact ⟨d, s3, by unfold eProp; rw [e1]; dsimp only; rw [if_pos rfl]; exact e3, q⟩
theorem z_fld {cn m : Str} (h : Ok (fe env st) fun o s1 => AsO o fun c ns vs => c = cn ∧ Od (fldD m ns vs) fun d => Q d s1) : Ok (eFld cn m fe env st) Q := by
  obtain ⟨o, s1, e1, h⟩ := h
  obtain ⟨c, ns, vs, rfl, rfl, d, e3, q⟩ := h.of
  exact ⟨d, s1, by unfold eFld; rw [e1]; dsimp only; rw [if_pos rfl, e3], q⟩
theorem z_make {cn : Str} {g : FI} {dd : List D} (h : Ok (fs env st) fun ds s => Ok (g (ds ++ dd) s) fun r s2 => Q (.obj cn r.1 r.2) s2) : Ok (eMake cn g dd fs env st) Q := by
  obtain ⟨x, s1, e1, r, s2, e2, q⟩ := h
  exact ⟨_, s2, by unfold eMake; rw [e1]; dsimp only; rw [e2], q⟩
theorem z_and (h : Ok (fa env st) fun d s1 => AsB d fun b => if b = true then Ok (fb env s1) Q else Q (.bl false) s1) : Ok (eAnd fa fb env st) Q := by
  obtain ⟨o, s1, e1, h⟩ := h
  obtain ⟨b, rfl, h⟩ := h.of
  cases b with
  | true =>
    obtain ⟨d, s2, e2, q⟩ := h
    exact ⟨d, s2, by unfold eAnd; rw [e1]; exact e2, q⟩
  | false => exact ⟨_, s1, by unfold eAnd; rw [e1], h⟩
theorem z_or (h : Ok (fa env st) fun d s1 => AsB d fun b => if b = true then Q (.bl true) s1 else Ok (fb env s1) Q) : Ok (eOr fa fb env st) Q := by
  obtain ⟨o, s1, e1, h⟩ := h
  obtain ⟨b, rfl, h⟩ := h.of
  cases b with
  | false =>
    obtain ⟨d, s2, e2, q⟩ := h
    exact ⟨d, s2, by unfold eOr; rw [e1]; exact e2, q⟩
  | true => exact ⟨_, s1, by unfold eOr; rw [e1], h⟩
theorem z_not (h : Ok (fa env st) fun d s1 => AsB d fun b => Q (.bl (!b)) s1) : Ok (eNot fa env st) Q := by
  obtain ⟨o, s1, e1, h⟩ := h
  obtain ⟨b, rfl, h⟩ := h.of
  exact ⟨_, s1, by unfold eNot; rw [e1], h⟩
theorem z_neg (h : Ok (fa env st) fun d s1 => AsI d fun b => Q (.int (-b)) s1) : Ok (eNeg fa env st) Q := by
  obtain ⟨o, s1, e1, h⟩ := h
  obtain ⟨b, rfl, h⟩ := h.of
  exact ⟨_, s1, by unfold eNeg; rw [e1], h⟩
theorem z_bits (h : Ok (fa env st) fun d s1 => AsI d fun b => Q (.int (Builtin.Int.intBits b : Nat)) s1) : Ok (eBits fa env st) Q := by
  obtain ⟨o, s1, e1, h⟩ := h
  obtain ⟨b, rfl, h⟩ := h.of
  exact ⟨_, s1, by unfold eBits; rw [e1], h⟩
theorem z_eif {α : Type} {f g : Fx α} {Q : α → Sto → Prop} (h : Ok (ta env st) fun b s1 => if b = true then Ok (f env s1) Q else Ok (g env s1) Q) : Ok (eIf ta f g env st) Q := by
  obtain ⟨b, s1, e1, h⟩ := h
  cases b with
  | true =>
    obtain ⟨d, s2, e2, q⟩ := h
    exact ⟨d, s2, by unfold eIf; rw [e1]; exact e2, q⟩
  | false =>
    obtain ⟨d, s2, e2, q⟩ := h
    exact ⟨d, s2, by unfold eIf; rw [e1]; exact e2, q⟩
theorem t_of (h : Ok (fe env st) fun d s => AsB d fun b => QB b s) : Ok (bOf fe env st) QB := by
  obtain ⟨o, s1, e1, h⟩ := h
  obtain ⟨b, rfl, h⟩ := h.of
  exact ⟨_, s1, by unfold bOf; rw [e1], h⟩
theorem t_and (h : Ok (ta env st) fun b s => if b = true then Ok (tb env s) QB else QB false s) : Ok (bAnd ta tb env st) QB := by
  obtain ⟨b, s1, e1, h⟩ := h
  cases b with
  | true =>
    obtain ⟨d, s2, e2, q⟩ := h
    exact ⟨d, s2, by unfold bAnd; rw [e1]; exact e2, q⟩
  | false => exact ⟨_, s1, by unfold bAnd; rw [e1], h⟩
theorem t_or (h : Ok (ta env st) fun b s => if b = true then QB true s else Ok (tb env s) QB) : Ok (bOr ta tb env st) QB := by
  obtain ⟨b, s1, e1, h⟩ := h
  cases b with
  | false =>
    obtain ⟨d, s2, e2, q⟩ := h
    exact ⟨d, s2, by unfold bOr; rw [e1]; exact e2, q⟩
  | true => exact ⟨_, s1, by unfold bOr; rw [e1], h⟩
theorem t_not (h : Ok (ta env st) fun b s => QB (!b) s) : Ok (bNot ta env st) QB := by
  obtain ⟨b, s1, e1, h⟩ := h
  exact ⟨_, s1, by unfold bNot; rw [e1], h⟩
theorem z_slN {α : Type} {op : D → Option Int → Option Int → Sto → Option α} {lo hi : SO} {Q : α → Sto → Prop} (h : Ok (fe env st) fun x s1 => Ok (lo env s1) fun l s2 => Ok (hi env s2) fun u s3 => Od (op x l u s3) fun d => Q d s3) : Ok (eSl op fe lo hi env st) Q := by
  obtain ⟨x, s1, e1, l, s2, e2, u, s3, e3, d, e4, q⟩ := h
  exact ⟨d, s3, by unfold eSl; rw [e1]; dsimp only; rw [e2]; dsimp only; rw [e3]; dsimp only; rw [e4], q⟩
theorem z_oN {Q : Option Int → Sto → Prop} (h : Q none st) : Ok (oNone env st) Q := ⟨_, st, rfl, h⟩
theorem z_oS {Q : Option Int → Sto → Prop} (h : Ok (fe env st) fun d s => AsI d fun i => Q (some i) s) : Ok (oSome fe env st) Q := by
  obtain ⟨o, s1, e1, h⟩ := h
  obtain ⟨b, rfl, h⟩ := h.of
  exact ⟨_, s1, by unfold oSome; rw [e1], h⟩
/-! statements -/
variable {f g : SS}
theorem z_snil (h : QS (.nx env) st) : Ok (sNil env st) QS := ⟨_, st, rfl, h⟩
theorem z_seq (h : Ok (f env st) fun o s1 => match o with
    | .nx e => Ok (g e s1) QS
    | o => QS o s1) : Ok (sSeq f g env st) QS := by
  obtain ⟨o, s1, e1, h⟩ := h
  cases o with
  | nx e =>
    obtain ⟨d, s2, e2, q⟩ := h
    exact ⟨d, s2, by unfold sSeq; rw [e1]; exact e2, q⟩
  | rt d => exact ⟨_, s1, by unfold sSeq; rw [e1], h⟩
  | bk d => exact ⟨_, s1, by unfold sSeq; rw [e1], h⟩
  | ct d => exact ⟨_, s1, by unfold sSeq; rw [e1], h⟩
theorem z_set (h : Ok (fe env st) fun d s => QS (.nx (env.set i (.val d))) s) : Ok (sSet i fe env st) QS := by
  obtain ⟨d, s1, e1, h⟩ := h
  exact ⟨_, s1, by unfold sSet; rw [e1], h⟩
theorem z_own (h : Ok (fl env st) fun d s => QS (.nx (env.set i (.own d))) s) : Ok (sOwn i fl env st) QS := by
  obtain ⟨d, s1, e1, h⟩ := h
  exact ⟨_, s1, by unfold sOwn; rw [e1], h⟩
theorem z_ret (h : Ok (fe env st) fun d s => QS (.rt d) s) : Ok (sRet fe env st) QS := by
  obtain ⟨d, s1, e1, h⟩ := h
  exact ⟨_, s1, by unfold sRet; rw [e1], h⟩
theorem z_retC (h : Ok (fl env st) fun xs s => QS (.rt (.cell s.length)) (s ++ [xs])) : Ok (sRetC fl env st) QS := by
  obtain ⟨d, s1, e1, h⟩ := h
  exact ⟨_, _, by unfold sRetC; rw [e1], h⟩
theorem z_retO (e : env[i]? = some (.own xs)) (h : QS (.rt (.cell st.length)) (st ++ [xs])) : Ok (sRetO i env st) QS := ⟨_, _, by unfold sRetO; rw [e], h⟩
theorem z_drop (h : Ok (fe env st) fun _ s => QS (.nx env) s) : Ok (sDrop fe env st) QS := by
  obtain ⟨d, s1, e1, h⟩ := h
  exact ⟨_, s1, by unfold sDrop; rw [e1], h⟩
theorem z_sif (h : Ok (ta env st) fun b s1 => if b = true then Ok (f env s1) QS else Ok (g env s1) QS) : Ok (sIf ta f g env st) QS := by
  obtain ⟨b, s1, e1, h⟩ := h
  cases b with
  | true =>
    obtain ⟨d, s2, e2, q⟩ := h
    exact ⟨d, s2, by unfold sIf; rw [e1]; exact e2, q⟩
  | false =>
    obtain ⟨d, s2, e2, q⟩ := h
    exact ⟨d, s2, by unfold sIf; rw [e1]; exact e2, q⟩
theorem z_frz (h : Ok (f (frz i env) st) QS) : Ok (sFrz i f env st) QS := h
theorem z_app (h : Ok (fe env st) fun d s => ∃ xs, env[i]? = some (.own xs) ∧ xs.length < 1000000 ∧ QS (.nx (env.set i (.own (xs ++ [d])))) s) : Ok (sApp i fe env st) QS := by
  obtain ⟨d, s1, e1, xs, e2, l, h⟩ := h
  exact ⟨_, s1, by unfold sApp; rw [e1]; dsimp only; rw [e2]; dsimp only; rw [if_pos l], h⟩
theorem z_appC (h : Ok (fa env st) fun o s => AsK o fun k => (∃ ys, lcG s k = some ys) ∧ Ok (fe env s) fun d s2 => ∃ xs, lcG s2 k = some xs ∧ xs.length < 1000000 ∧ QS (.nx env) (s2.set k (xs ++ [d]))) : Ok (sAppC fa fe env st) QS := by
  obtain ⟨o, s1, e1, h⟩ := h
  obtain ⟨k, rfl, ⟨ys, e0⟩, d, s2, e2, xs, e3, l, q⟩ := h.of
  exact ⟨_, _, by unfold sAppC; rw [e1]; dsimp only; rw [e0]; dsimp only; rw [e2]; dsimp only; rw [e3]; dsimp only; rw [if_pos l], q⟩
theorem z_putC {fj : SE} (h : Ok (fe env st) fun d s1 => Ok (fa env s1) fun o s2 => AsK o fun k => Ok (fj env s2) fun j s3 => AsI j fun j => ∃ xs n, lcG s3 k = some xs ∧ ixN xs.length j = some n ∧ QS (.nx env) (s3.set k (xs.set n d))) : Ok (sPutC fa fj fe env st) QS := by
  obtain ⟨d, s1, e1, o, s2, e2, h⟩ := h
  obtain ⟨k, rfl, o, s3, e3, h⟩ := h.of
  obtain ⟨j, rfl, xs, n, e4, e5, q⟩ := h.of
  exact ⟨_, _, by unfold sPutC; rw [e1]; dsimp only; rw [e2]; dsimp only; rw [e3]; dsimp only; rw [e4]; dsimp only; rw [e5], q⟩
theorem z_for {fi : Fx Src} {asg : D → Env → Option Env} (h : Ok (fi env st) fun xs s1 => Ok (loopM xs.2 asg f xs.1 env s1) QS) : Ok (sFor fi asg f env st) QS := by
  obtain ⟨xs, s1, e1, o, s2, e2, q⟩ := h
  exact ⟨o, s2, by unfold sFor; rw [e1]; exact e2, q⟩
theorem z_lc {fi : Fx Src} {asg : D → Env → Option Env} {vs : List Nat} (h : Ok (fi env st) fun xs s1 => xs.1.length ≤ 1000000 ∧ Ok (compM xs.2 asg ta fe (wipeE env vs) xs.1 s1) QL) : Ok (lComp fi asg ta fe vs env st) QL := by
  obtain ⟨xs, s1, e1, l, o, s2, e2, q⟩ := h
  exact ⟨o, s2, by unfold lComp; rw [e1]; dsimp only; rw [if_pos l]; exact e2, q⟩
theorem z_yes (h : QB true st) : Ok (bYes env st) QB := ⟨_, st, rfl, h⟩
theorem z_kv {Q : Sl → Sto → Prop} (h : Ok (fe env st) fun d s => Q (.val d) s) : Ok (Kd.run (.val fe) env st) Q := by
  obtain ⟨d, s1, e1, h⟩ := h
  exact ⟨_, s1, by unfold Kd.run; dsimp only; rw [e1], h⟩
theorem z_ko {Q : Sl → Sto → Prop} (h : Ok (fl env st) fun d s => Q (.own d) s) : Ok (Kd.run (.own fl) env st) Q := by
  obtain ⟨d, s1, e1, h⟩ := h
  exact ⟨_, s1, by unfold Kd.run; dsimp only; rw [e1], h⟩
theorem z_par {j : Nat} {a b : Kd} (h : Ok (a.run env st) fun x s1 => Ok (b.run env s1) fun y s2 => i ≠ j ∧ QS (.nx ((env.set i x).set j y)) s2) : Ok (sPar i j a b env st) QS := by
  obtain ⟨x, s1, e1, y, s2, e2, n, q⟩ := h
  exact ⟨_, _, by unfold sPar; rw [e1]; dsimp only; rw [e2]; dsimp only; rw [if_neg n], q⟩
theorem z_unp {is : List Nat} (h : Ok (fe env st) fun d s => ∃ ds e, d = .tup ds ∧ setAll is ds env = some e ∧ QS (.nx e) s) : Ok (sUnp is fe env st) QS := by
  obtain ⟨d, s1, e1, ds, e, rfl, e2, q⟩ := h
  exact ⟨_, _, by unfold sUnp; rw [e1]; dsimp only; rw [e2], q⟩
theorem z_sfld {cn m : Str} (h : Ok (fe env st) fun d s => ∃ ns vs, env[i]? = some (.ownI cn ns vs) ∧ ns.length < 1000 ∧ QS (.nx (env.set i (.ownI cn (putD m d ns vs).1 (putD m d ns vs).2))) s) : Ok (sFld cn i m fe env st) QS := by
  obtain ⟨d, s1, e1, ns, vs, e2, l, q⟩ := h
  exact ⟨_, s1, by unfold sFld; rw [e1]; dsimp only; rw [e2]; dsimp only; rw [if_pos ⟨rfl, l⟩], q⟩
theorem z_fn {n m : Nat} {ds : List D} (hl : ds.length = n) (h : Ok (f (env0 m ds) st) fun o s => match o with
    | .rt d => Q d s
    | .nx _ => Q .non s
    | _ => False) : Ok (fnM n m f ds st) Q := by
  obtain ⟨o, s1, e1, h⟩ := h
  cases o with
  | nx e => exact ⟨_, s1, by unfold fnM; rw [if_pos hl, e1], h⟩
  | rt d => exact ⟨_, s1, by unfold fnM; rw [if_pos hl, e1], h⟩
  | bk d => exact h.elim
  | ct d => exact h.elim
/-! the sources of loops -/
variable {QI : Src → Sto → Prop}
theorem z_rg1 (h : Ok (fs env st) fun ds s => ∃ j, ds = [.int j] ∧ inR j = true ∧ QI (rangeD 0 1 j.toNat, noChk) s) : Ok (iRg1 fs env st) QI := by
  obtain ⟨ds, s1, e1, j, rfl, r, q⟩ := h
  exact ⟨_, s1, by unfold iRg1; rw [e1]; dsimp only; rw [if_pos r], q⟩
theorem z_seqI (h : Ok (fe env st) fun d s => ∃ xs, (d = .lst xs ∨ d = .tup xs) ∧ QI (xs, noChk) s) : Ok (iSeq fe env st) QI := by
  obtain ⟨d, s1, e1, xs, rfl | rfl, q⟩ := h
  · exact ⟨_, s1, by unfold iSeq; rw [e1], q⟩
  · exact ⟨_, s1, by unfold iSeq; rw [e1], q⟩
theorem z_rg2 (h : Ok (fs env st) fun ds s => ∃ i j, ds = [.int i, .int j] ∧ inR i = true ∧ inR j = true ∧ QI (rangeD i 1 (j - i).toNat, noChk) s) : Ok (iRg2 fs env st) QI := by
  obtain ⟨ds, s1, e1, i, j, rfl, r, r', q⟩ := h
  exact ⟨_, s1, by unfold iRg2; rw [e1]; dsimp only; rw [if_pos ⟨r, r'⟩], q⟩
end
section
variable {s : Sto} {Q : D → Prop} {i j : Int}
theorem u_add (h : Q (.int (i + j))) : Od (oAdd (.int i) (.int j) s) Q := ⟨_, rfl, h⟩
theorem u_sub (h : Q (.int (i - j))) : Od (oSub (.int i) (.int j) s) Q := ⟨_, rfl, h⟩
theorem u_mul (c : mulC i j = true) (h : Q (.int (i * j))) : Od (oMul (.int i) (.int j) s) Q := ⟨_, if_pos c, h⟩
theorem u_mod (c : 0 < j) (h : Q (.int (i % j))) : Od (oMod (.int i) (.int j) s) Q := ⟨_, if_pos (decide_eq_true c), h⟩
theorem u_div (c : divC i j = true) (h : Q (.int (i / j))) : Od (oDiv (.int i) (.int j) s) Q := ⟨_, if_pos c, h⟩
theorem u_pow (c : powC i j = true) (h : Q (.int (i ^ j.toNat))) : Od (oPow (.int i) (.int j) s) Q := ⟨_, if_pos c, h⟩
theorem u_lt (h : Q (.bl (decide (i < j)))) : Od (oLt (.int i) (.int j) s) Q := ⟨_, rfl, h⟩
theorem u_le (h : Q (.bl (decide (i ≤ j)))) : Od (oLe (.int i) (.int j) s) Q := ⟨_, rfl, h⟩
theorem u_gt (h : Q (.bl (decide (j < i)))) : Od (oGt (.int i) (.int j) s) Q := ⟨_, rfl, h⟩
theorem u_ge (h : Q (.bl (decide (j ≤ i)))) : Od (oGe (.int i) (.int j) s) Q := ⟨_, rfl, h⟩
theorem u_eq {x y : D} {p q : PyData} (hx : toPy 60 s x = some p) (hy : toPy 60 s y = some q) (h : Q (.bl (PyData.eqv p q))) : Od (oEq x y s) Q := ⟨_, by unfold oEq; rw [hx, hy], h⟩
theorem u_ne {x y : D} {p q : PyData} (hx : toPy 60 s x = some p) (hy : toPy 60 s y = some q) (h : Q (.bl (!PyData.eqv p q))) : Od (oNe x y s) Q := ⟨_, by unfold oNe; rw [hx, hy], h⟩
theorem u_isN {x : D} (h : Q (.bl (isNonD x))) : Od (oIsN x .non s) Q := ⟨_, rfl, h⟩
theorem u_notN {x : D} (h : Q (.bl (!isNonD x))) : Od (oNotN x .non s) Q := ⟨_, rfl, h⟩
theorem u_ixT {xs : List D} {d : D} (e : atI xs i = some d) (h : Q d) : Od (oIx (.tup xs) (.int i) s) Q := ⟨_, e, h⟩
theorem u_ixL {xs : List D} {d : D} (e : atI xs i = some d) (h : Q d) : Od (oIx (.lst xs) (.int i) s) Q := ⟨_, e, h⟩
theorem u_ixC {xs : List D} {d : D} {k : Nat} (hk : lcG s k = some xs) (e : atI xs i = some d) (h : Q d) : Od (oIx (.cell k) (.int i) s) Q := ⟨d, by show (match lcG s k with | some xs => atI xs i | none => none) = _; rw [hk]; exact e, h⟩
theorem u_now {α : Type} {o : Option α} {a : α} {Q : α → Prop} (e : o = some a) (h : Q a) : Od o Q := ⟨a, e, h⟩
end
theorem inR_t {i : Int} (h : -(2 ^ 62) ≤ i) (h' : i < 2 ^ 62) : inR i = true := by
  unfold inR
  rw [decide_eq_true h, decide_eq_true h']
  rfl
theorem mulC_r {i j : Int} (h : -(2 ^ 64) < j) (h' : j < 2 ^ 64) : mulC i j = true := by
  unfold mulC
  rw [decide_eq_true h, decide_eq_true h']
  simp
theorem mulC_l {i j : Int} (h : -(2 ^ 64) < i) (h' : i < 2 ^ 64) : mulC i j = true := by
  unfold mulC
  rw [decide_eq_true h, decide_eq_true h']
  simp
theorem divC_t {i j : Int} (h : 0 < j) (h' : j.natAbs < 2 ^ 9000) : divC i j = true := by
  unfold divC
  rw [decide_eq_true h, decide_eq_true ((Nat.log2_lt (by omega)).mpr h')]
  rfl
theorem divC_s {i j : Int} (h : 0 < j) (h' : j < 2 ^ 100) : divC i j = true :=
  divC_t h (Nat.lt_of_lt_of_le (m := 2 ^ 100) (by omega) (Nat.pow_le_pow_right (by decide) (by decide)))
theorem loop_inv {chk : Sto → Bool} {asg : D → Env → Option Env} {body : SS} (I : Nat → Env → Sto → Prop) : ∀ (xs : List D) (n : Nat) (env : Env) (st : Sto), I n env st →
    (∀ (i : Nat) (x : D) (e : Env) (s : Sto), xs[i]? = some x → I (n + i) e s → chk s = true ∧ ∃ e1, asg x e = some e1 ∧ Ok (body e1 s) fun o s2 => ∃ e2, (o = .nx e2 ∨ o = .ct e2) ∧ I (n + i + 1) e2 s2) → (∀ e s, I (n + xs.length) e s → chk s = true) →
    Ok (loopM chk asg body xs env st) fun o s' => ∃ e', o = .nx e' ∧ I (n + xs.length) e' s'
  | [], n, env, st, h, _, hc => ⟨_, st, by unfold loopM; rw [if_pos (hc _ _ h)], env, rfl, h⟩
  | x :: xs, n, env, st, h, hs, hc => by
    obtain ⟨c, e1, a1, o, s2, b, e2, ho, h2⟩ := hs 0 x env st rfl h
    obtain ⟨o', s', r, e', rfl, q⟩ := loop_inv I xs (n + 1) e2 s2 h2 (fun i y e s hi z => by
      have := hs (i + 1) y e s hi (by rwa [show n + (i + 1) = n + 1 + i by omega])
      rwa [show n + (i + 1) + 1 = n + 1 + i + 1 by omega] at this) (fun e s z => hc e s (by rwa [List.length_cons, show n + (xs.length + 1) = n + 1 + xs.length by omega]))
    refine ⟨_, s', ?_, e', rfl, by rwa [List.length_cons, show n + (xs.length + 1) = n + 1 + xs.length by omega]⟩
    unfold loopM
    rw [if_pos c, a1]
    dsimp only
    rw [b]
    rcases ho with rfl | rfl
    · exact r
    · exact r
/-- a comprehension whose store does not change -/
theorem comp_map {chk : Sto → Bool} {asg : D → Env → Option Env} {cond : SB} {elt : SE} {env0 : Env} {st : Sto} (p : D → Bool) (f : D → D) (hc : chk st = true) : ∀ (xs : List D),
    (∀ x ∈ xs, ∃ e1, asg x env0 = some e1 ∧ cond e1 st = some (p x, st) ∧ (p x = true → elt e1 st = some (f x, st))) → compM chk asg cond elt env0 xs st = some ((xs.filter p).map f, st)
  | [], _ => by unfold compM; rw [if_pos hc]; rfl
  | x :: xs, h => by
    obtain ⟨e1, a, c, e⟩ := h x (List.mem_cons_self ..)
    have ih := comp_map p f hc xs fun y hy => h y (List.mem_cons_of_mem _ hy)
    unfold compM
    rw [if_pos hc, a]
    dsimp only
    rw [c]
    cases hp : p x with
    | false =>
      dsimp only
      rw [ih, List.filter_cons_of_neg (by simp [hp])]
    | true =>
      dsimp only
      rw [e hp]
      dsimp only
      rw [ih, List.filter_cons_of_pos hp]
      rfl
end LW

/-! LwQ: how a mirror runs, II: comprehensions, makers, lists. -/
namespace LW
open PySem L2
theorem comp_inv {chk : Sto → Bool} {asg : D → Env → Option Env} {cond : SB} {elt : SE} {env0 : Env} (I : List D → Sto → Prop) : ∀ (xs : List D) (acc : List D) (st : Sto), I acc st →
    (∀ x ∈ xs, ∀ acc s, I acc s → ∃ e1, asg x env0 = some e1 ∧ Ok (cond e1 s) fun b s1 => if b = true then Ok (elt e1 s1) fun y s2 => I (acc ++ [y]) s2 else I acc s1) → (∀ acc s, I acc s → chk s = true) →
    Ok (compM chk asg cond elt env0 xs st) fun ys s => I (acc ++ ys) s
  | [], acc, st, h, _, hc => ⟨_, st, by unfold compM; rw [if_pos (hc _ _ h)], by rw [List.append_nil]; exact h⟩
  | x :: xs, acc, st, h, hs, hc => by
    obtain ⟨e1, a1, b, s1, hb, h1⟩ := hs x (List.mem_cons_self ..) acc st h
    cases b with
    | false =>
      obtain ⟨ys, s2, r, q⟩ := comp_inv I xs acc s1 h1 (fun y hy => hs y (List.mem_cons_of_mem _ hy)) hc
      exact ⟨ys, s2, by unfold compM; rw [if_pos (hc _ _ h), a1]; dsimp only; rw [hb]; exact r, q⟩
    | true =>
      obtain ⟨y, s2, hy, h2⟩ := h1
      obtain ⟨ys, s3, r, q⟩ := comp_inv I xs (acc ++ [y]) s2 h2 (fun y hy => hs y (List.mem_cons_of_mem _ hy)) hc
      refine ⟨y :: ys, s3, ?_, by rw [List.append_assoc] at q; exact q⟩
      unfold compM
      rw [if_pos (hc _ _ h), a1]
      dsimp only
      rw [hb]
      dsimp only
      rw [hy]
      dsimp only
      rw [r]
/-- a list of whole numbers, as data or as a cell -/
def IsL (s : Sto) (d : D) (cs : List Int) : Prop := d = .lst (cs.map D.int) ∨ ∃ j, d = .cell j ∧ s[j]? = some (cs.map D.int)
theorem noTag_ints {cs : List Int} : isTag (cs.map D.int) = false := by cases cs <;> rfl
theorem lcG_ints {s : Sto} {j : Nat} {cs : List Int} (e : s[j]? = some (cs.map D.int)) : lcG s j = some (cs.map D.int) := lcG_of e noTag_ints
theorem IsL.get {s : Sto} {d : D} {cs : List Int} (h : IsL s d cs) : lstR s d = some (cs.map D.int) := by
  rcases h with rfl | ⟨j, rfl, e⟩
  · rfl
  · exact lcG_ints e
theorem IsL.ints {s : Sto} {d : D} {cs : List Int} (h : IsL s d cs) : lstI s d = some cs := by
  unfold lstI
  rw [h.get]
  exact intsOf_map _
theorem IsL.ty {s : Sto} {d : D} {cs : List Int} (h : IsL s d cs) : ty7 s d = some .lst := by
  rcases h with rfl | ⟨j, rfl, e⟩
  · rfl
  · show (match lcG s j with | some _ => some Ty7.lst | none => none) = _
    rw [lcG_ints e]
theorem IsL.lst {s : Sto} {cs : List Int} : IsL s (.lst (cs.map D.int)) cs := .inl rfl
theorem IsL.cell {s : Sto} {j : Nat} {cs : List Int} (h : s[j]? = some (cs.map D.int)) : IsL s (.cell j) cs := .inr ⟨j, rfl, h⟩
theorem py_ints {n : Nat} {st : Sto} : ∀ (cs : List Int), mapO (toPy (n + 1) st) (cs.map D.int) = some (cs.map PyData.int)
  | [] => rfl
  | c :: cs => by
    unfold mapO
    rw [List.map_cons]
    dsimp only
    have e : toPy (n + 1) st (.int c) = some (.int c) := by unfold toPy; rfl
    rw [e]
    dsimp only
    rw [py_ints cs]
    rfl
theorem IsL.py {s : Sto} {d : D} {cs : List Int} {n : Nat} (h : IsL s d cs) : toPy (n + 2) s d = some (.list (cs.map PyData.int)) := by
  rcases h with rfl | ⟨j, rfl, e⟩
  · unfold toPy
    dsimp only
    rw [py_ints]
  · unfold toPy
    dsimp only
    rw [lcG_ints e]
    dsimp only
    rw [py_ints]
section
variable {env : Env} {st s : Sto} {fe : SE} {fs : SA} {QI : Src → Sto → Prop} {Q : D → Prop} {f : SS} {d : D} {cs : List Int} {i : Int}
theorem z_rg3 (h : Ok (fs env st) fun ds s => ∃ i j k, ds = [.int i, .int j, .int k] ∧ ((k ≠ 0 ∧ k.natAbs < 1073741824) ∧ Builtin.Range.small i j k = true ∧ Builtin.Range.rangeSize i j k = ((Builtin.Range.rangeSize i j k).toNat : Int)) ∧ QI (rangeD i k (Builtin.Range.rangeSize i j k).toNat, noChk) s) : Ok (iRg3 fs env st) QI := by
  obtain ⟨ds, s1, e1, i, j, k, rfl, r, q⟩ := h
  exact ⟨_, s1, by unfold iRg3; rw [e1]; dsimp only; rw [if_pos r], q⟩
theorem z_init {cn : Str} {n m : Nat} {ds : List D} {Q : List Str × List D → Sto → Prop} (hl : ds.length = n) (h : Ok (f (.ownI cn [] [] :: env0 (m - 1) ds) st) fun o s => match o with
    | .nx e => ∃ r, fldsOf cn e[0]? = some r ∧ Q r s
    | _ => False) : Ok (initM cn n m f ds st) Q := by
  obtain ⟨o, s1, e1, h⟩ := h
  cases o with
  | nx e =>
    obtain ⟨r, e2, q⟩ := h
    refine ⟨r, s1, ?_, q⟩
    unfold initM
    rw [if_pos hl, e1]
    dsimp only
    rw [e2]
  | rt d => exact h.elim
  | bk d => exact h.elim
  | ct d => exact h.elim
end
end LW

/-! LwR: repr of numbers and lists, as mirrors see it. -/
namespace LW
open PySem L2
structure Sh (p : PyData) (n : Nat) : Prop where
  sh : p.showable = true
  ln : p.shown.length ≤ n
  ok : PyData.strOk p.shown = true
section
variable {s : Sto} {Q : D → Prop} {d : D} {p : PyData} {n : Nat} {x : Str}
theorem py_str (h : PyData.strOk x = true) {k : Nat} : toPy (k + 1) s (.str x) = some (.str x) := by
  unfold toPy
  dsimp only
  rw [if_pos h]
end
end LW

/-! LwS: more words: int(..), a <= b <= c, whole numbers of the module, enumerate. -/
namespace LW
open PySem L2 PyProof.Rows
/-! ### int(x) -/
section
variable {mg : Glob} {X : Cx} {e : Expr} {es : List Expr} {p pos : Pos} {f : SA}
end
/-! ### whole numbers of the module -/
/-! ### a op b op c -/
section
variable {mg : Glob} {X : Cx} {a b c : Expr} {fa fb fc : SE} {p q : Int → Int → Bool} {o o' : CmpOp} {pos : Pos}
end
/-! ### enumerate(list) -/
def enumD : Nat → List D → List D
  | _, [] => []
  | n, x :: r => .tup [.int (n : Nat), x] :: enumD (n + 1) r
def iEnm (f : SA) : Fx Src := fun env st => match f env st with
  | some ([.lst xs], s1) => some ((enumD 0 xs, noChk), s1)
  | _ => none
section
variable {mg : Glob} {X : Cx} {e : Expr} {elts : List Expr} {kk : Nat} {p pos tpos : Pos} {f : SA}
end
end LW

/-! LwT: sorted(set(list of whole numbers)). -/
namespace LW
open PySem L2 PySem.Spec PyProof.Rows
section
variable {P : Program} {w : World} {A : Around} {E : Value → Shared → Prop} {s : Shared}
/-- a new set, and the heap with it -/
abbrev nS (w : World) : Obj := { cls := .type "set", dict := none, data := .set #[] 0 (.fresh 0 0 (!w.params.followText "set-order")) }
abbrev pS (w : World) (s : Shared) : Heap := s.heap.push (nS w)
end
end LW

/-! LwU: sorted(set(..)) as a reading and as plain data. -/
namespace LW
open PySem L2 PySem.Spec PyProof.Rows
/-! ### the plain word -/
/-! ### the reading -/
section
variable {X : Cx}
end
/-! ### and as data -/
end LW

/-! LwV: sorted(list of whole numbers). -/
namespace LW
open PySem L2 PySem.Spec PyProof.Rows
section
variable {mg : Glob} {X : Cx} {e : Expr} {es : List Expr} {p pos : Pos} {f : SA}
end
end LW

/-! LwW: sorted(set(..)) of longer lists with few members; xs[::-1]. -/
namespace LW
open PySem L2 PySem.Spec PyProof.Rows
section
variable {X : Cx}
end
/-! ### xs[::-1] -/
end LW

/-! LwX: a, b, c = x, y, z. -/
namespace LW
open PySem L2 PySem.Spec PyProof.Rows
def sPar3 (i j l : Nat) (fa fb fc : SE) : SS := fun env st => match fa env st with
  | some (x, s1) => match fb env s1 with
    | some (y, s2) => match fc env s2 with
      | some (z, s3) => some (.nx (((env.set i (.val x)).set j (.val y)).set l (.val z)), s3)
      | none => none
    | none => none
  | none => none
section
variable {mg : Glob} {X : Cx} {a b c : Expr} {pos : Pos} {fa fb fc : SE}
end
theorem z_par3 {i j l : Nat} {fa fb fc : SE} {env : LW.Env} {st : Sto} {QS : Out → Sto → Prop} (h : Ok (fa env st) fun x s1 => Ok (fb env s1) fun y s2 => Ok (fc env s2) fun z s3 => QS (.nx (((env.set i (.val x)).set j (.val y)).set l (.val z))) s3) : Ok (sPar3 i j l fa fb fc env st) QS := by
  obtain ⟨x, s1, e1, y, s2, e2, z, s3, e3, q⟩ := h
  exact ⟨_, s3, by unfold sPar3; rw [e1]; dsimp only; rw [e2]; dsimp only; rw [e3], q⟩
end LW

/-! LwYa: texts: in, walks over signs, sorted; insert; where a recursion ends. -/
namespace LW
open PySem L2 PyProof.Rows PySem.Spec
/-! ### texts in lists -/
def strsOf : List D → Option (List Str)
  | [] => some []
  | .str x :: r => (match strsOf r with
    | some xs => some (x :: xs)
    | none => none)
  | _ => none
theorem strsOf_eq : ∀ {xs : List D} {zs : List Str}, strsOf xs = some zs → xs = zs.map D.str
  | [], _, e => by cases e; rfl
  | d :: r, zs, e => by
    cases d with
    | str x =>
      unfold strsOf at e
      split at e
      · rename_i ys h
        cases e
        rw [strsOf_eq h]
        rfl
      · cases e
    | _ => cases e
theorem strsOf_map : ∀ (zs : List Str), strsOf (zs.map D.str) = some zs
  | [] => rfl
  | z :: r => by
    show (match strsOf (r.map D.str) with | some xs => some (z :: xs) | none => none) = _
    rw [strsOf_map r]
section
variable {mg : Glob} {N : Prot} {c : List Addr} {H : Hp} {st : Sto} {u : V} {x : D}
theorem RepL.strs : ∀ (zs : List Str), RepL mg N c H (zs.map V.str) (zs.map D.str)
  | [] => .nil
  | z :: r => .cons (.str z) (RepL.strs r)
theorem RepL.of_strs : ∀ {zs : List Str} {vs : List V}, RepL mg N c H vs (zs.map D.str) → vs = zs.map V.str
  | [], _, .nil => rfl
  | z :: r, _, .cons (.str _) t => by rw [RepL.of_strs t]; rfl
end
def lstS (st : Sto) (x : D) : Option (List Str) := match lstR st x with
  | some xs => strsOf xs
  | none => none
theorem RepT.strs {mg : Glob} {N : Prot} {c : List Addr} {H : Hp} {st : Sto} {u : V} {x : D} {zs : List Str} (W : Wd mg N c H st) (h : RepT mg N c H u x) (e : lstS st x = some zs) : ∃ a, u = .ref a ∧ SqL mg.K H a (zs.map V.str) := by
  unfold lstS at e
  split at e
  · rename_i xs hx
    obtain ⟨a, vs, rfl, ha, r⟩ := RepT.read W h hx
    rw [strsOf_eq e] at r
    rw [r.of_strs] at ha
    exact ⟨a, rfl, ha⟩
  · cases e
/-! ### in -/
/-- data in a list -/
def oInL (neg : Bool) : D → D → Sto → Option D := fun x y st => match toPy 60 st x, toPy 60 st y with
  | some p, some (.list ds) => some (.bl (if neg then !ds.any fun z => PyData.eqv z p else ds.any fun z => PyData.eqv z p))
  | _, _ => none
theorem ok_inL {mg : Glob} : OpOk mg (RE mg) (rInD mg.K) (oInL false) := by
  intro N c H st u v x y d Q W p1 p2 e k
  unfold oInL at e
  split at e
  · rename_i p ds hp hd
    cases e
    exact ⟨p, ds, dp_T W p1 hp, dp_T W p2 hd, toPy_shaped hp, toPy_shaped hd, k _ N c H Ex.refl W (.bl _)⟩
  · cases e
theorem ok_ninL {mg : Glob} : OpOk mg (RE mg) (rNotInD mg.K) (oInL true) := by
  intro N c H st u v x y d Q W p1 p2 e k
  unfold oInL at e
  split at e
  · rename_i p ds hp hd
    cases e
    exact ⟨p, ds, dp_T W p1 hp, dp_T W p2 hd, toPy_shaped hp, toPy_shaped hd, k _ N c H Ex.refl W (.bl _)⟩
  · cases e
/-- one sign in a text -/
def oInS (neg : Bool) : D → D → Sto → Option D := fun x y _ => match x, y with
  | .str z, .str t => (match z.cps.toList with
    | [ch] => some (.bl (if neg then !decide (ch ∈ t.cps.toList) else decide (ch ∈ t.cps.toList)))
    | _ => none)
  | _, _ => none
theorem one_sign {z : Str} {ch : Nat} (h : z.cps.toList = [ch]) : z = ⟨#[ch]⟩ := by
  cases z with
  | mk a =>
    congr 1
    exact Array.toList_inj.mp h
theorem ok_ninS {mg : Glob} : OpOk mg (RE mg) (fun x y H Q => ∃ (c : Nat) (z : Str), x = .str ⟨#[c]⟩ ∧ y = .str z ∧ Q (.bl (!decide (c ∈ z.cps.toList))) H) (oInS true) := by
  intro N c H st u v x y d Q W p1 p2 e k
  unfold oInS at e
  split at e
  · rename_i z t
    split at e
    · rename_i ch hc
      cases e
      exact ⟨ch, t, by rw [p1.str, one_sign hc], p2.str, k _ N c H Ex.refl W (.bl _)⟩
    · cases e
  · cases e
section
variable {mg : Glob} {X : Cx} {a b : Expr} {pos : Pos} {fa fb : SE}
theorem d_inL (hu : X.A.units + 65 < cLine) (ha : PE X a (tP mg fa)) (hb : PE X b (tP mg fb)) (hK : X.K = mg.K := by rfl) (hn : lastMarks [.In] [b] = false := by rfl) : PE X (.Compare a [.In] [b] pos) (tE mg (eOp (oInL false) fa fb)) := d_cmp (hK ▸ op_inD hu) ok_inL back_E ha hb hn
theorem d_ninL (hu : X.A.units + 65 < cLine) (ha : PE X a (tP mg fa)) (hb : PE X b (tP mg fb)) (hK : X.K = mg.K := by rfl) (hn : lastMarks [.NotIn] [b] = false := by rfl) : PE X (.Compare a [.NotIn] [b] pos) (tE mg (eOp (oInL true) fa fb)) := d_cmp (hK ▸ op_notInD hu) ok_ninL back_E ha hb hn
theorem d_ninS (ha : PE X a (tP mg fa)) (hb : PE X b (tP mg fb)) (hn : lastMarks [.NotIn] [b] = false := by rfl) : PE X (.Compare a [.NotIn] [b] pos) (tE mg (eOp (oInS true) fa fb)) := d_cmp op_notIn_sign ok_ninS back_E ha hb hn
end
/-! ### a text of the module; walks over signs -/
def GS (mg : Str → Option Value) (x : Str) (z : Str) : Prop := ∃ t, mg x = some (.str z t)
theorem d_gstr {mg : Glob} {X : Cx} {x z : Str} {pos : Pos} (h : GS X.mg x z) (hg : Gl X x := by rfl) (hd : (x == ("__debug__" : Str)) = false := by decide) : PE X (.Name x pos) (tE mg (eC (.str z))) := by
  obtain ⟨t, h⟩ := h
  exact d_glob (v := .str z) hg h ⟨t, rfl⟩ (fun _ _ _ => .str z) hd
def signsD (x : Str) : List D := x.cps.toList.map fun ch => D.str ⟨#[ch]⟩
def iSgn (f : SE) : Fx Src := fun env st => match f env st with
  | some (.str x, s1) => some ((signsD x, noChk), s1)
  | _ => none
theorem il_str {mg : Glob} {N : Prot} {c : List Addr} {H : Hp} {x : Str} : ItL mg (Its x) (signsD x, noChk) N c H where
  stop := fun N' c' H' st _ _ _ => by
    show x.cps.size ≤ (signsD x).length
    unfold signsD
    rw [List.length_map, Array.length_toList]
    exact Nat.le_refl _
  go := fun i N' c' H' st hi _ _ _ => by
    show i < x.cps.size
    have : i < (signsD x).length := hi
    unfold signsD at this
    rwa [List.length_map, Array.length_toList] at this
  yld := fun i N' c' H' st v H2 hi _ W _ y => by
    obtain ⟨rfl, ch, hc, rfl⟩ := y
    refine ⟨_, ?_, Ex.refl, W, .str ⟨#[ch]⟩⟩
    show (signsD x)[i]? = _
    unfold signsD
    rw [List.getElem?_map, Array.getElem?_toList, hc]
    rfl
theorem i_str {mg : Glob} {X : Cx} {tg e : Expr} {f : SE} (he : PE X e (tP mg f)) : PI X tg e (tI mg (iSgn f)) := pi_weak (pi_str he) fun σ H R ⟨E, N, c, env, st, xs, st', Rl, q, k⟩ => by
  unfold iSgn at q
  split at q
  · rename_i x s1 q1
    cases q
    exact ⟨E, N, c, env, st, _, _, Rl, q1, fun v N1 c1 H1 x1 W1 r1 => ⟨x, r1.str, k _ N1 c1 H1 x1 W1 il_str⟩⟩
  · cases q
/-! ### sorted texts -/
abbrev cpL (a : Str) : List Nat := a.cps.toList
theorem cpL_inj {a b : Str} (h : cpL a = cpL b) : a = b := by
  cases a with
  | mk x => cases b with
    | mk y => exact congrArg _ (Array.toList_inj.mp h)
def leS (a b : Str) : Prop := cpL a ≤ cpL b
instance {a b : Str} : Decidable (leS a b) := inferInstanceAs (Decidable (cpL a ≤ cpL b))
theorem leS_trans {a b d : Str} (h : leS a b) (h' : leS b d) : leS a d := List.le_trans h h'
theorem leS_total (a b : Str) : leS a b ∨ leS b a := List.le_total _ _
theorem leS_anti {a b : Str} (h : leS a b) (h' : leS b a) : a = b := cpL_inj (List.le_antisymm h h')
theorem lt_leS {a b : Str} (h : ltCps (cpL b) (cpL a) = false) : leS a b := by
  rw [ltCps_eq] at h
  exact List.not_lt.mp (of_decide_eq_false h)
def insS (x : Str) : List Str → List Str
  | [] => [x]
  | y :: r => if leS x y then x :: y :: r else y :: insS x r
def sortS (zs : List Str) : List Str := zs.foldr insS []
theorem perm_insS {x : Str} : ∀ {l : List Str}, (insS x l).Perm (x :: l)
  | [] => List.Perm.refl _
  | y :: r => by
    unfold insS
    split
    · exact List.Perm.refl _
    · exact (List.Perm.cons y perm_insS).trans (List.Perm.swap x y r)
theorem perm_sortS : ∀ {l : List Str}, (sortS l).Perm l
  | [] => List.Perm.refl _
  | x :: r => perm_insS.trans (List.Perm.cons x perm_sortS)
theorem pw_insS {x : Str} : ∀ {l : List Str}, l.Pairwise leS → (insS x l).Pairwise leS
  | [], _ => List.pairwise_singleton _ _
  | y :: r, h => by
    obtain ⟨h1, h2⟩ := List.pairwise_cons.mp h
    unfold insS
    split
    · rename_i hx
      refine List.pairwise_cons.mpr ⟨fun z hz => ?_, h⟩
      rcases List.mem_cons.mp hz with rfl | hz
      · exact hx
      · exact leS_trans hx (h1 z hz)
    · rename_i hx
      have hyx : leS y x := (leS_total x y).resolve_left hx
      refine List.pairwise_cons.mpr ⟨fun z hz => ?_, pw_insS h2⟩
      rcases List.mem_cons.mp (perm_insS.mem_iff.mp hz) with rfl | hz
      · exact hyx
      · exact h1 z hz
theorem pw_sortS : ∀ {l : List Str}, (sortS l).Pairwise leS
  | [] => List.Pairwise.nil
  | x :: r => pw_insS (pw_sortS (l := r))
theorem sortS_uniq {l m : List Str} (hp : l.Perm m) (hl : l.Pairwise leS) : l = sortS m :=
  (hp.trans perm_sortS.symm).eq_of_pairwise (le := leS) (fun a b _ _ h1 h2 => leS_anti h1 h2) hl pw_sortS
theorem rising_pw : ∀ (r : List Str) (p : Str), risingS p r = true → (p :: r).Pairwise leS
  | [], p, _ => List.pairwise_singleton _ _
  | x :: r, p, h => by
    unfold risingS at h
    rw [Bool.and_eq_true] at h
    have ih := rising_pw r x h.2
    have px : leS p x := lt_leS (by simpa using h.1)
    refine List.pairwise_cons.mpr ⟨fun z hz => ?_, ih⟩
    rcases List.mem_cons.mp hz with rfl | hz
    · exact px
    · exact leS_trans px ((List.pairwise_cons.mp ih).1 z hz)
theorem sorted_pw : ∀ (l : List Str), sortedS l = true → l.Pairwise leS
  | [], _ => List.Pairwise.nil
  | x :: r, h => rising_pw r x h
def gSortS : List D → Sto → Option (List D) := fun ds st => match ds with
  | [x] => (match lstS st x with
    | some zs => if zs.length < 64 then some ((sortS zs).map D.str) else none
    | none => none)
  | _ => none
theorem ok_sortS {mg : Glob} : BiOk mg (RN mg) (rSortedS mg.K) gSortS := by
  intro N c H st us ds d Q W p q k
  unfold gSortS at q
  split at q
  · split at q
    · rename_i zs hn
      split at q
      · rename_i hl
        cases q
        obtain ⟨u, rfl, h⟩ := tl1 p
        obtain ⟨a, rfl, ha⟩ := h.strs W hn
        refine ⟨a, zs, rfl, ha, hl, fun ys p hp hs hl => ?_⟩
        rw [sortS_uniq hp (sorted_pw ys hs)]
        exact k _ _ _ _ (Ex.laidN W hl) (W.laidN hl) (RN.laid W hl (RepL.strs _))
      · cases q
    · cases q
  · cases q
section
variable {mg : Glob} {X : Cx} {e : Expr} {es : List Expr} {p pos : Pos} {f : SA}
theorem d_sortS (hm : X.mg "sorted" = none) (ha : PA X (e :: es) (tAP mg f)) (hg : Gl X "sorted" := by rfl) (he : starEach (e :: es) X.env = (false, eval e X.env) :: starEach es X.env := by rfl) (hpl : (backTo pos (starEach es X.env)).any (·.1) = false := by rfl) (hK : X.K = mg.K := by rfl) : PE X (.Call (.Name "sorted" p) (e :: es) [] pos) (tL mg (eBi gSortS f)) :=
  d_bi (hK ▸ cr_sortedS) ok_sortS back_N hg hm (by decide +kernel) ha (by decide) (by decide) he hpl
end
/-! ### where a recursion ends -/
theorem OkF.mono {P : Program} {w : World} {K : PySem.W.Frag} {mg : Str → Option Value} {base : Heap} {j k : Nat} {x : Str} {ps : List Str} {g : FM} (h : OkF P w K mg base j x ps g) (hl : j ≤ k) : OkF P w K mg base k x ps g := by
  obtain ⟨f, fd, hm, hk, F, hb, ar⟩ := h
  exact ⟨f, fd, hm, hk, F.mono hl, hb, ar⟩
/-! ### insert -/
def sIns (i : Nat) (fj fe : SE) : SS := fun env st => match fj env st with
  | some (.int j, s1) => (match fe env s1 with
    | some (d, s2) => (match env[i]? with
      | some (.own xs) => if xs.length < 1000000 ∧ 0 ≤ j ∧ j < 2 ^ 62 then some (.nx (env.set i (.own (xs.take j.toNat ++ [d] ++ xs.drop j.toNat))), s2) else none
      | _ => none)
    | none => none)
  | _ => none
section
variable {mg : Glob} {X : Cx} {e ej : Expr} {pos apos cpos : Pos} {fe fj : SE}
theorem s_ins {i : Nat} {x : Str} {p1 : Pos} (hj : PE X ej (tP mg fj)) (he : PE X e (tE mg fe)) (hN : X.N[i]? = some x := by rfl) (hv : Vis X.env.scope x := by first | exact Or.inl rfl | exact Or.inr (Or.inl rfl) | exact Or.inr (Or.inr rfl)) (hd : (x == ("__debug__" : Str)) = false := by decide)
    (hcd : (x == ("__classdict__" : Str)) = false := by decide) (hs : swapsWith (.Call (.Attribute (.Name x p1) "insert" apos) [ej, e] [] cpos) none pos.line X.env = pure false := by rfl)
    (hbase : attributeBase (.Name x p1) "insert" X.env (eval (.Name x p1) X.env) = eval (.Name x p1) X.env := by rfl)
    (hfew : ((backTo cpos (starEach [ej, e] X.env)).all (fun x => !x.1) && (backToKw cpos (keywordEach [] X.env)).all (fun x => x.1.isSome)
      && decide ([ej, e].length + ([] : List Keyword).length + (if ([] : List Keyword).isEmpty then 0 else 1) < 30)) = true := by rfl)
    (hline : (apos.endLine == cpos.line) = true := by rfl) (hst : starEach [ej, e] X.env = (false, eval ej X.env) :: starEach [e] X.env := by rfl) (hst2 : starEach [e] X.env = (false, eval e X.env) :: starEach [] X.env := by rfl) (hplain : (backTo cpos (starEach [e] X.env)).any (·.1) = false := by rfl) :
    PS X (.Expr (.Call (.Attribute (.Name x p1) "insert" apos) [ej, e] [] cpos) pos) (tS mg (sIns i fj fe)) :=
  ps_weak (ps_expr (pe_bm PySem.F.plainAttrs_list PySem.F.slot_list_insert PySem.F.type_list_insert mt_insert (pe_var hN hv hd hcd) (pa_cons hj (pa_cons he pa_nil hst2) hst) hbase hfew hline hst hplain) hs) fun De σ H h => by
    obtain ⟨E, N, c, env, st, o, st', R, q, p⟩ := tS_def.mp h
    unfold sIns at q
    split at q
    · rename_i j s1 q1
      split at q
      · rename_i d s2 q2
        split at q
        · rename_i xs hx
          split at q
          · rename_i hl
            cases q
            obtain ⟨a, vs, ea, ha, rr⟩ := R.sl i _ hx
            have ea := join_some ea
            refine ⟨.ref a, ea, .inl ⟨rfl, vs, SqL.of ha⟩, E, N, c, env, st, .int j, s1, R, q1, fun u N1 c1 H1 x1 W1 r1 => ⟨E, N1, c1, env, s1, d, _, R.ex x1 W1, q2, fun v N2 c2 H2 x2 W2 r2 => ?_⟩⟩
            have R1 := R.ex x1 W1
            have R2 := R1.ex x2 W2
            obtain ⟨b, us, eb, hb, r3⟩ := R2.sl i _ hx
            rw [ea] at eb
            cases eb
            have wr := R2.write (vs := us) hx ea (((r3.take j.toNat).append (.cons r2 .nil)).append (r3.drop j.toNat))
            have ej := r1.int
            subst ej
            exact ⟨a, us, j, v, rfl, rfl, hb, by rw [r3.length]; exact sz7 hl.1, hl.2.1, Int.lt_trans hl.2.2 (by decide), p N2 c2 σ _ (((x1.trans x2 R.wd).sx R.wd W2).trans wr.2) wr.1⟩
          · cases q
        · cases q
      · cases q
    · cases q
end
end LW

/-! LwYb: dicts whose keys are numbers and texts: as data. -/
namespace LW
open PySem L2 PyProof.Rows
abbrev DK := List Key × List D
instance memKdec (x : Key) (ks : List Key) : Decidable (x ∈ ks) := decidable_of_iff ((ks.any fun y => decide (y = x)) = true) (by
  rw [List.any_eq_true]
  exact ⟨fun ⟨y, h, e⟩ => of_decide_eq_true e ▸ h, fun h => ⟨x, h, decide_eq_true rfl⟩⟩)
/-! ### plain words -/
def keyD : D → Option Key
  | .int i => some (.inl i)
  | .str z => some (.inr z)
  | _ => none
def keyV : Key → D
  | .inl i => .int i
  | .inr z => .str z
theorem keyD_V {k : Key} : keyD (keyV k) = some k := by cases k <;> rfl
theorem keyD_eq {d : D} {k : Key} (h : keyD d = some k) : d = keyV k := by
  cases d <;> first | (cases h; rfl) | cases h
def getD : List Key → List D → Key → Option D
  | k :: ks, d :: ds, x => if k = x then some d else getD ks ds x
  | _, _, _ => none
def putV : List Key → List D → Key → D → List D
  | k :: ks, d :: ds, x, y => (if k = x then y else d) :: putV ks ds x y
  | _, _, _, _ => []
def putKD (p : DK) (x : Key) (y : D) : DK := if x ∈ p.1 then (p.1, putV p.1 p.2 x y) else (p.1 ++ [x], p.2 ++ [y])
def mergeD (acc : DK) (l : List (Key × D)) : DK := l.foldl (fun a kv => putKD a kv.1 kv.2) acc
/-- pairs (key, value) of a list of tuples -/
def pairsOf : List D → Option (List (Key × D))
  | [] => some []
  | .tup [a, b] :: r => (match keyD a, pairsOf r with
    | some k, some l => some ((k, b) :: l)
    | _, _ => none)
  | _ => none
section
variable {mg : Glob} {N : Prot} {c : List Addr} {H : Hp} {st : Sto} {u : V} {x : D}
theorem RepT.key {k : Key} (h : RepT mg N c H u x) (e : keyD x = some k) : u = kV k := by
  have := keyD_eq e
  subst this
  cases k with
  | inl i => exact h.int
  | inr z => exact h.str
theorem Rep.key {k : Key} : Rep mg N c H (kV k) (keyV k) := by
  cases k with
  | inl i => exact .int i
  | inr z => exact .str z
theorem RepT.dic {ks : List Key} {ds : List D} (h : RepT mg N c H u (.dic ks ds)) : ∃ a kvs, u = .ref a ∧ Rd H a (.dK kvs) ∧ kvs.map (·.1) = ks ∧ RepL mg N c H (kvs.map (·.2)) ds := by
  rcases h with h | ⟨_, _, _, _, e, _⟩
  · cases h with
    | dic h n hn r => exact ⟨_, _, rfl, .inl h, hn, r⟩
    | dfz h n hn r => exact ⟨_, _, rfl, .inr ⟨_, h⟩, hn, r⟩
  · cases e
theorem get_rel : ∀ {kvs : List (Key × V)} {ds : List D} {k : Key} {d : D}, RepL mg N c H (kvs.map (·.2)) ds → getD (kvs.map (·.1)) ds k = some d → ∃ v, valV kvs k = some v ∧ Rep mg N c H v d
  | [], _, _, _, _, e => by cases e
  | kv :: r, _, k, d, .cons h t, e => by
    rw [List.map_cons] at e
    unfold getD at e
    split at e
    · rename_i hk
      cases e
      exact ⟨kv.2, valV_pos hk, h⟩
    · rename_i hk
      obtain ⟨v, e1, r1⟩ := get_rel t e
      exact ⟨v, by rw [valV_neg hk]; exact e1, r1⟩
theorem any_mem {kvs : List (Key × V)} {k : Key} : (kvs.any fun kv => decide (kv.1 = k)) = decide (k ∈ kvs.map (·.1)) := by
  rw [List.any_eq, decide_eq_decide]
  constructor
  · rintro ⟨kv, h1, h2⟩
    exact List.mem_map.mpr ⟨kv, h1, of_decide_eq_true h2⟩
  · intro h
    obtain ⟨kv, h1, h2⟩ := List.mem_map.mp h
    exact ⟨kv, h1, decide_eq_true h2⟩
theorem has_rel {kvs : List (Key × V)} {k : Key} : (valV kvs k).isSome = decide (k ∈ kvs.map (·.1)) := by rw [← valV_any, any_mem]
theorem putV_rel {v : V} {d : D} {k : Key} (h : Rep mg N c H v d) : ∀ {kvs : List (Key × V)} {ds : List D}, RepL mg N c H (kvs.map (·.2)) ds → RepL mg N c H ((kvs.map (fun kv => if kv.1 = k then (kv.1, v) else kv)).map (·.2)) (putV (kvs.map (·.1)) ds k d)
  | [], _, .nil => .nil
  | kv :: r, _, .cons q t => by
    rw [List.map_cons, List.map_cons, List.map_cons]
    unfold putV
    by_cases e : kv.1 = k
    · rw [if_pos e, if_pos e]
      exact .cons h (putV_rel h t)
    · rw [if_neg e, if_neg e]
      exact .cons q (putV_rel h t)
theorem put_rel {v : V} {d : D} {k : Key} {kvs : List (Key × V)} {ds : List D} (h : Rep mg N c H v d) (r : RepL mg N c H (kvs.map (·.2)) ds) : (putK kvs k v).map (·.1) = (putKD (kvs.map (·.1), ds) k d).1 ∧ RepL mg N c H ((putK kvs k v).map (·.2)) (putKD (kvs.map (·.1), ds) k d).2 := by
  unfold putK putKD
  rw [any_mem]
  by_cases e : k ∈ kvs.map (·.1)
  · rw [if_pos (decide_eq_true e), if_pos e]
    refine ⟨?_, putV_rel h r⟩
    rw [List.map_map]
    refine List.map_congr_left fun kv _ => ?_
    show (if kv.1 = k then (kv.1, v) else kv).1 = kv.1
    split <;> rfl
  · rw [if_neg (by rw [decide_eq_false e]; exact Bool.false_ne_true), if_neg e]
    exact ⟨by rw [List.map_append]; rfl, by rw [List.map_append]; exact r.append (.cons h .nil)⟩
theorem merge_rel : ∀ {l : List (Key × D)} {more : List (Key × V)} {kvs : List (Key × V)} {ds : List D}, RepL mg N c H (kvs.map (·.2)) ds → more.map (·.1) = l.map (·.1) → RepL mg N c H (more.map (·.2)) (l.map (·.2)) → (mergeK kvs more).map (·.1) = (mergeD (kvs.map (·.1), ds) l).1 ∧ RepL mg N c H ((mergeK kvs more).map (·.2)) (mergeD (kvs.map (·.1), ds) l).2
  | [], [], kvs, ds, r, _, _ => ⟨rfl, r⟩
  | [], _ :: _, _, _, _, e, _ => by cases e
  | _ :: _, [], _, _, _, e, _ => by cases e
  | kd :: l, kv :: more, kvs, ds, r, e, .cons h t => by
    have e1 : kv.1 = kd.1 := by injection e
    have e2 : more.map (·.1) = l.map (·.1) := by injection e
    obtain ⟨p1, p2⟩ := put_rel (k := kd.1) h r
    show (mergeK (putK kvs kv.1 kv.2) more).map (·.1) = (mergeD (putKD (kvs.map (·.1), ds) kd.1 kd.2) l).1 ∧ RepL mg N c H ((mergeK (putK kvs kv.1 kv.2) more).map (·.2)) (mergeD (putKD (kvs.map (·.1), ds) kd.1 kd.2) l).2
    rw [e1]
    have ih := merge_rel (l := l) (more := more) p2 e2 t
    rw [p1] at ih
    exact ih
theorem pairs_rel : ∀ {xs : List D} {vs : List V} {l : List (Key × D)}, RepL mg N c H vs xs → pairsOf xs = some l → ∃ (ps : List Addr) (kvs : List (Key × V)), vs = ps.map V.ref ∧ Paired (fun p kv => SqT mg.K H p [kV kv.1, kv.2]) ps kvs ∧ kvs.map (·.1) = l.map (·.1) ∧ RepL mg N c H (kvs.map (·.2)) (l.map (·.2))
  | [], _, _, .nil, e => by cases e; exact ⟨[], [], rfl, .nil, rfl, .nil⟩
  | x :: xs, _, l, .cons h t, e => by
    unfold pairsOf at e
    split at e
    · rename_i heq
      cases heq
    · rename_i a b r heq
      cases heq
      split at e
      · rename_i k l' hk hl
        cases e
        obtain ⟨ps, kvs, rfl, hp, e1, r1⟩ := pairs_rel t hl
        obtain ⟨p, us, rfl, hh, rr⟩ := RepT.tup (.inl h)
        cases rr with
        | cons ha tt => cases tt with
          | cons hb tt => cases tt with
            | nil =>
              have ek := RepT.key (.inl ha) hk
              subst ek
              exact ⟨p :: ps, (k, _) :: kvs, rfl, .cons (SqT.of hh) hp, by rw [List.map_cons, List.map_cons, e1], .cons hb r1⟩
      · cases e
    · cases e
end
/-! ### a new dict -/
def RD (mg : Glob) : Told DK := fun _ _ H N' c' H' v d => ∃ p kvs, v = .ref p ∧ H p = none ∧ N' p ∧ p ∉ c' ∧ H' p = some (.dK kvs) ∧ kvs.map (·.1) = d.1 ∧ RepL mg N' c' H' (kvs.map (·.2)) d.2
abbrev tD (mg : Glob) (f : Fx DK) : TE := tX mg (RD mg) f
def eD (f : Fx DK) : SE := fun env st => (f env st).map fun p => (.dic p.1.1 p.1.2, p.2)
section
variable {mg : Glob} {N N' : Prot} {c c' : List Addr} {H H' : Hp} {st st' : Sto} {v : V} {X : Cx} {e : Expr}
theorem back_D : Back mg (RD mg) := fun W x W1 ⟨p, vs, e, hp, r⟩ => ⟨p, vs, e, x.free W W1 hp, r⟩
theorem RD.give {d : DK} (W : Wd mg N c H st) (x : Ex N c H N' c' H') (W' : Wd mg N' c' H' st') (h : RD mg N c H N' c' H' v d) : ∃ N'', Ex N c H N'' c' H' ∧ Wd mg N'' c' H' st' ∧ Rep mg N'' c' H' v (.dic d.1 d.2) := by
  obtain ⟨p, kvs, rfl, hp, np, nc, hv, hm, r⟩ := h
  have less : ∀ a, (N' a ∧ a ≠ p) → N' a := fun a z => z.1
  refine ⟨fun a => N' a ∧ a ≠ p, ⟨x.keep, fun a z => x.new a z.1, fun a z => ⟨x.mono a z, fun e => W.trk a z (by rw [e]; exact hp)⟩, x.pre, x.newc⟩, W'.less less fun a z => ⟨W'.cn a z, fun e => nc (e ▸ z)⟩, ?_⟩
  exact .dic hv (fun z => z.2 rfl) hm (r.tr (Tr.less less))
theorem d_giveD {f : Fx DK} (h : PE X e (tD mg f)) : PE X e (tE mg (eD f)) := pe_weak h fun σ H Q ⟨E, N, c, env, st, d, st', R, q, k⟩ => by
  unfold eD at q
  cases qf : f env st with
  | none => rw [qf] at q; cases q
  | some p =>
    obtain ⟨xs, s1⟩ := p
    rw [qf] at q
    cases q
    refine ⟨E, N, c, env, st, xs, _, R, qf, fun v N' c' H' x W r => ?_⟩
    obtain ⟨N'', x2, W2, r2⟩ := r.give R.wd x W
    exact k v N'' c' H' x2 W2 r2
theorem RD.laid {kvs : List (Key × V)} {d : DK} {p : Addr} (W : Wd mg N c H st) (hp : H p = none) (hm : kvs.map (·.1) = d.1) (r : RepL mg N c H (kvs.map (·.2)) d.2) : RD mg N c H (fun a => N a ∨ a = p) c (upd H p (.dK kvs)) (.ref p) d :=
  ⟨p, kvs, rfl, hp, .inr rfl, W.cnone hp, upd_same, hm, r.tr ((Ex.laidN W hp).tr W)⟩
end
/-! ### dict(list of pairs), dict(d), {} -/
/-- a dict that may be read -/
def dicG (st : Sto) : D → Option DK
  | .dic ks ds => some (ks, ds)
  | .dcl k => dcG st k
  | _ => none
theorem RepT.dicG {mg : Glob} {N : Prot} {c : List Addr} {H : Hp} {st : Sto} {u : V} {x : D} {p : DK} (W : Wd mg N c H st) (h : RepT mg N c H u x) (e : dicG st x = some p) : ∃ a kvs, u = .ref a ∧ Rd H a (.dK kvs) ∧ kvs.map (·.1) = p.1 ∧ RepL mg N c H (kvs.map (·.2)) p.2 := by
  cases x with
  | dic ks ds => cases e; exact h.dic
  | dcl k =>
    rcases h with h | ⟨_, _, _, _, z, _⟩
    · cases h with
      | dcl hc =>
        obtain ⟨kvs, ha, hn, r⟩ := W.dcG hc e
        exact ⟨_, kvs, rfl, ha, hn, r⟩
    · cases z
  | _ => cases e
def gDictP : List D → Sto → Option DK := fun ds st => match ds with
  | [x] => (match lstR st x with
    | some xs => (match pairsOf xs with
      | some l => some (mergeD ([], []) l)
      | none => none)
    | none => none)
  | _ => none
def gDictD : List D → Sto → Option DK := fun ds st => match ds with
  | [x] => dicG st x
  | _ => none
def rDictP (K : PySem.W.Frag) : List V → Hp → VK → Prop := fun xs H Q => ∃ (a : Addr) (ps : List Addr) (kvs : List (Key × V)), xs = [.ref a] ∧ SqL K H a (ps.map V.ref) ∧ Paired (fun p kv => SqT K H p [kV kv.1, kv.2]) ps kvs ∧ ∀ p, H p = none → Q (.ref p) (upd H p (.dK (mergeK [] kvs)))
theorem ok_dictP {mg : Glob} : BiOk mg (RD mg) (rDictP mg.K) gDictP := by
  intro N c H st us ds d Q W p q k
  unfold gDictP at q
  split at q
  · rename_i x
    split at q
    · rename_i xs hx
      split at q
      · rename_i l hl
        cases q
        obtain ⟨u, rfl, h⟩ := tl1 p
        obtain ⟨a, vs, rfl, ha, r⟩ := RepT.read W h hx
        obtain ⟨ps, kvs, rfl, hp, e1, r1⟩ := pairs_rel r hl
        refine ⟨a, ps, kvs, rfl, ha, hp, fun p hp => ?_⟩
        obtain ⟨m1, m2⟩ := merge_rel (l := l) (more := kvs) (kvs := []) (ds := []) .nil e1 r1
        exact k _ _ _ _ (Ex.laidN W hp) (W.laidN hp) (RD.laid W hp m1 m2)
      · cases q
    · cases q
  · cases q
def rDictD : List V → Hp → VK → Prop := fun xs H Q => ∃ (a : Addr) (kvs : List (Key × V)), xs = [.ref a] ∧ Rd H a (.dK kvs) ∧ ∀ p, H p = none → Q (.ref p) (upd H p (.dK kvs))
theorem ok_dictD {mg : Glob} : BiOk mg (RD mg) rDictD gDictD := by
  intro N c H st us ds d Q W p q k
  unfold gDictD at q
  split at q
  · rename_i x
    obtain ⟨u, rfl, h⟩ := tl1 p
    obtain ⟨a, kvs, rfl, ha, hn, r⟩ := RepT.dicG W h q
    exact ⟨a, kvs, rfl, ha, fun p hp => k _ _ _ _ (Ex.laidN W hp) (W.laidN hp) (RD.laid W hp hn r)⟩
  · cases q
def lD0 : Fx DK := fun _ st => some (([], []), st)
section
variable {mg : Glob} {X : Cx} {e : Expr} {es : List Expr} {p pos : Pos} {f : SA}
theorem d_dictP (hc : X.calm = true) (hm : X.mg "dict" = none) (ha : PA X (e :: es) (tAP mg f)) (hg : Gl X "dict" := by rfl) (he : starEach (e :: es) X.env = (false, eval e X.env) :: starEach es X.env := by rfl) (hpl : (backTo pos (starEach es X.env)).any (·.1) = false := by rfl) (hK : X.K = mg.K := by rfl) : PE X (.Call (.Name "dict" p) (e :: es) [] pos) (tD mg (eBi gDictP f)) :=
  d_bt (hK ▸ call_dictP hc) ok_dictP back_D hg hm (by decide +kernel) ha (by decide) (by decide) he hpl
theorem d_dictD (hm : X.mg "dict" = none) (ha : PA X (e :: es) (tAP mg f)) (hg : Gl X "dict" := by rfl) (he : starEach (e :: es) X.env = (false, eval e X.env) :: starEach es X.env := by rfl) (hpl : (backTo pos (starEach es X.env)).any (·.1) = false := by rfl) : PE X (.Call (.Name "dict" p) (e :: es) [] pos) (tD mg (eBi gDictD f)) :=
  d_bt call_dictD ok_dictD back_D hg hm (by decide +kernel) ha (by decide) (by decide) he hpl
theorem d_d0 : PE X (.Dict [] [] pos) (tD mg lD0) := pe_weak pe_dnewK fun σ H Q ⟨E, N, c, env, st, d, st', R, q, k⟩ => by
  cases q
  exact fun p hp => k _ _ _ _ (Ex.laidN R.wd hp) (R.wd.laidN hp) (RD.laid R.wd hp rfl .nil)
end
/-! ### d[k], k in d -/
def oDx : D → D → Sto → Option D := fun x y st => match dicG st x with
  | some p => (match keyD y with
    | some k => getD p.1 p.2 k
    | none => none)
  | none => none
def oInK (neg : Bool) : D → D → Sto → Option D := fun y x st => match dicG st x with
  | some p => (match keyD y with
    | some k => some (.bl (if neg then !decide (k ∈ p.1) else decide (k ∈ p.1)))
    | none => none)
  | none => none
theorem ok_dx {mg : Glob} : OpOk mg (RE mg) (fun x y H Q => ∃ a v, x = .ref a ∧ DGet H a y (some v) ∧ Q v H) oDx := by
  intro N c H st u v x y d Q W p1 p2 e k
  unfold oDx at e
  split at e
  · rename_i p hp
    split at e
    · rename_i kk hk
      obtain ⟨a, kvs, rfl, ha, hn, r⟩ := RepT.dicG W p1 hp
      rw [← hn] at e
      obtain ⟨w, hw, rw_⟩ := get_rel r e
      exact ⟨a, w, rfl, .inl ⟨kvs, kk, ha, p2.key hk, hw.symm⟩, k w N c H Ex.refl W rw_⟩
    · cases e
  · cases e
theorem ok_ninK {mg : Glob} : OpOk mg (RE mg) (fun y x H Q => ∃ a o, x = .ref a ∧ DGet H a y o ∧ Q (.bl (!o.isSome)) H) (oInK true) := by
  intro N c H st u v y x d Q W p1 p2 e k
  unfold oInK at e
  split at e
  · rename_i p hp
    split at e
    · rename_i kk hk
      cases e
      obtain ⟨a, kvs, rfl, ha, hn, r⟩ := RepT.dicG W p2 hp
      refine ⟨a, _, rfl, .inl ⟨kvs, kk, ha, p1.key hk, rfl⟩, ?_⟩
      rw [has_rel, hn]
      exact k _ N c H Ex.refl W (.bl _)
    · cases e
  · cases e
section
variable {mg : Glob} {X : Cx} {a b : Expr} {pos : Pos} {fa fb : SE}
theorem d_dx (hu : X.A.units + 1 < cLine) (ha : PE X a (tP mg fa)) (hb : PE X b (tP mg fb)) (hs : NoSl b := by exact fun _ _ => rfl) : PE X (.Subscript a b pos) (tE mg (eOp oDx fa fb)) := pe_weak (pe_dget hu ha hb hs) fun _ _ _ h => r_op ok_dx back_E h
theorem d_ninK (hu : X.A.units + 1 < cLine) (ha : PE X a (tP mg fa)) (hb : PE X b (tP mg fb)) (h1 : behindInMarks .NotIn b = false := by rfl) : PE X (.Compare a [.NotIn] [b] pos) (tE mg (eOp (oInK true) fa fb)) := pe_weak (pe_cmp (pc_dnotin hu ha hb) h1) fun _ _ _ h => r_op ok_ninK back_E h
end
/-! ### sorted(d) -/
def strKeys : List Key → Option (List Str)
  | [] => some []
  | .inr z :: r => (match strKeys r with
    | some l => some (z :: l)
    | none => none)
  | _ => none
section
variable {mg : Glob} {X : Cx} {e : Expr} {es : List Expr} {p pos : Pos} {f : SA}
end
end LW

/-! LwYc: comprehensions over the keys of a dict; a dict of the frame's own. -/
namespace LW
open PySem L2 PyProof.Rows
/-- a heap in which dicts are locked or unlocked -/
structure Lk (N : Prot) (H H' : Hp) : Prop where
  keep : ∀ a o, H a = some o → (∀ kvs, ¬ (o = .dK kvs ∨ ∃ b, o = .frz b (.dK kvs))) → H' a = some o
  dic : ∀ a kvs, Rd H a (.dK kvs) → Rd H' a (.dK kvs)
  ex : ∀ a, N a → H' a = H a
section
variable {mg : Glob} {N : Prot} {c : List Addr} {H H' : Hp} {st : Sto}
theorem Lk.some (l : Lk N H H') {a : Addr} (h : H a ≠ none) : H' a ≠ none := by
  cases e : H a with
  | none => exact absurd e h
  | some o =>
    by_cases q : ∃ kvs, o = .dK kvs ∨ ∃ b, o = .frz b (.dK kvs)
    · obtain ⟨kvs, q⟩ := q
      have : Rd H a (.dK kvs) := q.elim (fun z => .inl (by rw [e, z])) fun ⟨b, z⟩ => .inr ⟨b, by rw [e, z]⟩
      rcases l.dic a kvs this with z | ⟨b, z⟩ <;> rw [z] <;> exact fun y => nomatch y
    · rw [l.keep a o e fun kvs z => q ⟨kvs, z⟩]
      exact fun y => nomatch y
mutual
theorem Rep.lk {v : V} {d : D} (l : Lk N H H') : Rep mg N c H v d → Rep mg N c H' v d
  | .non => .non
  | .bl b => .bl b
  | .int i => .int i
  | .str x => .str x
  | .ty n => .ty n
  | .cls h => .cls h
  | .tup h r => .tup (l.keep _ _ h fun kvs z => z.elim (fun y => nomatch y) fun ⟨_, y⟩ => nomatch y) (RepL.lk l r)
  | .lst h n r => .lst (l.keep _ _ h fun kvs z => z.elim (fun y => nomatch y) fun ⟨_, y⟩ => nomatch y) n (RepL.lk l r)
  | .fro h n r => .fro (l.keep _ _ h fun kvs z => z.elim (fun y => nomatch y) fun ⟨_, y⟩ => nomatch y) n (RepL.lk l r)
  | .kro h => .kro h
  | .cell h => .cell h
  | .dcl h => .dcl h
  | .ocl h => .ocl h
  | .obj hc h n hn r => .obj hc (l.keep _ _ h fun kvs z => z.elim (fun y => nomatch y) fun ⟨_, y⟩ => nomatch y) n hn (RepL.lk l r)
  | .dic h n hn r => (l.dic _ _ (.inl h)).elim (fun z => .dic z n hn (RepL.lk l r)) fun ⟨_, z⟩ => .dfz z n hn (RepL.lk l r)
  | .dfz h n hn r => (l.dic _ _ (.inr ⟨_, h⟩)).elim (fun z => .dic z n hn (RepL.lk l r)) fun ⟨_, z⟩ => .dfz z n hn (RepL.lk l r)
  | .dit h n hn r => .dit (l.keep _ _ h fun kvs z => z.elim (fun y => nomatch y) fun ⟨_, y⟩ => nomatch y) n hn (RepL.lk l r)
  | .ditz h n hn r => .ditz (l.keep _ _ h fun kvs z => z.elim (fun y => nomatch y) fun ⟨_, y⟩ => nomatch y) n hn (RepL.lk l r)
  | .rng h n => .rng (l.keep _ _ h fun kvs z => z.elim (fun y => rgo_dK y) fun ⟨_, y⟩ => rgo_frz y) n
  | .err0 hc h n => .err0 hc (l.keep _ _ h fun kvs z => z.elim (fun y => ero_dK y) fun ⟨_, y⟩ => ero_frz y) n
  | .err1 hc h n hd nd r => .err1 hc (l.keep _ _ h fun kvs z => z.elim (fun y => ero_dK y) fun ⟨_, y⟩ => ero_frz y) n (l.keep _ _ hd fun kvs z => z.elim (fun y => nomatch y) fun ⟨_, y⟩ => nomatch y) nd (Rep.lk l r)
theorem RepL.lk {vs : List V} {ds : List D} (l : Lk N H H') : RepL mg N c H vs ds → RepL mg N c H' vs ds
  | .nil => .nil
  | .cons h r => .cons (Rep.lk l h) (RepL.lk l r)
end
theorem CRep.lk {o : HO} {xs : List D} (l : Lk N H H') : CRep mg N c H o xs → CRep mg N c H' o xs
  | .l r => .l (r.lk l)
  | .k r => .k (r.lk l)
  | .kz r => .kz (r.lk l)
  | .t r => .t (r.lk l)
  | .i hc r => .i hc (r.lk l)
theorem Wd.lk (l : Lk N H H') (W : Wd mg N c H st) : Wd mg N c H' st :=
  ⟨W.len, fun k a xs h1 h2 => let ⟨vs, e, r⟩ := W.sto k a xs h1 h2; ⟨vs, by rw [l.ex a (W.cn a (List.mem_of_getElem? h1))]; exact e, r.lk l⟩, W.cn, W.nd, fun a h => l.some (W.trk a h)⟩
theorem lk_lock {a : Addr} {od : Obj} {kvs : List (Key × V)} (h : H a = some (.dK kvs)) (n : ¬ N a) : Lk N H (upd H a (.frz od (.dK kvs))) where
  keep := fun b o e q => by
    by_cases z : b = a
    · subst z
      rw [h] at e
      cases e
      exact absurd (.inl rfl) (q kvs)
    · rw [upd_ne z]; exact e
  dic := fun b ks q => by
    by_cases z : b = a
    · subst z
      rcases q with q | ⟨o, q⟩
      · rw [h] at q; cases q; exact .inr ⟨od, upd_same⟩
      · rw [h] at q; cases q
    · unfold Rd
      rw [upd_ne z]; exact q
  ex := fun b z => upd_ne fun y => n (y ▸ z)
theorem lk_unlock {a : Addr} {od : Obj} {kvs : List (Key × V)} (h : H a = some (.frz od (.dK kvs))) (n : ¬ N a) : Lk N H (upd H a (.dK kvs)) where
  keep := fun b o e q => by
    by_cases z : b = a
    · subst z
      rw [h] at e
      cases e
      exact absurd (.inr ⟨_, rfl⟩) (q kvs)
    · rw [upd_ne z]; exact e
  dic := fun b ks q => by
    by_cases z : b = a
    · subst z
      rcases q with q | ⟨o, q⟩
      · rw [h] at q; cases q
      · rw [h] at q; cases q; exact .inl upd_same
    · unfold Rd
      rw [upd_ne z]; exact q
  ex := fun b z => upd_ne fun y => n (y ▸ z)
/-- the frame's relation in the locked heap -/
theorem Rel.lock {E : En} {env : Env} {σ : L2.St} {a : Addr} {od : Obj} {kvs : List (Key × V)} (R : Rel mg E N c env st σ H) (h : H a = some (.dK kvs)) (n : ¬ N a) : ∃ E', Rel mg E' N c env st σ (upd H a (.frz od (.dK kvs))) := by
  have l : Lk N H (upd H a (.frz od (.dK kvs))) := lk_lock h n
  have nn : ∀ b, (if b = a then (E.H0 a).map (fun _ => HO.frz od (.dK kvs)) else E.H0 b) = none ↔ E.H0 b = none := fun b => by
    by_cases z : b = a
    · subst z
      rw [if_pos rfl, Option.map_eq_none_iff]
    · rw [if_neg z]
  refine ⟨⟨fun b => if b = a then (E.H0 a).map (fun _ => HO.frz od (.dK kvs)) else E.H0 b, E.N0, E.c0, E.self⟩, ⟨R.len, fun i s e => ?_, fun i s b e ho es => ?_, R.inj, R.wd.lk l, R.n0, fun b z q => R.t0 b z ((nn b).mp q), fun b o e nc => ?_, R.pre, fun b z => (R.newc b z).imp id fun q => (nn b).mpr q, R.slf⟩⟩
  · have q := R.sl i s e
    have own : ∀ b, s.isOwn = true → σ[i]?.join = some (.ref b) → b ≠ a := fun b ho es z => n (z ▸ (R.own i s b e ho (join_some es)).1)
    cases s with
    | un => trivial
    | val d => obtain ⟨v, ev, rv⟩ := q; exact ⟨v, ev, rv.lk l⟩
    | own ys => obtain ⟨b, us, ev, hb, rv⟩ := q; exact ⟨b, us, ev, by rw [upd_ne (own b rfl ev)]; exact hb, rv.lk l⟩
    | ownI cn ns ds => obtain ⟨b, C, dx, fs, ev, hc, hb, hn, rv⟩ := q; exact ⟨b, C, dx, fs, ev, hc, by rw [upd_ne (own b rfl ev)]; exact hb, hn, rv.lk l⟩
    | ownD ks ds => obtain ⟨b, kvs', ev, hb, hn, rv⟩ := q; exact ⟨b, kvs', ev, by rw [upd_ne (own b rfl ev)]; exact hb, hn, rv.lk l⟩
    | ownT ks ds => obtain ⟨b, kvs', ev, hb, hn, rv⟩ := q; exact ⟨b, kvs', ev, by rw [upd_ne (own b rfl ev)]; exact hb, hn, rv.lk l⟩
  · obtain ⟨z1, z2, z3⟩ := R.own i s b e ho es
    exact ⟨z1, z2, (nn b).mpr z3⟩
  · by_cases z : b = a
    · subst z
      have e : (if b = b then (E.H0 b).map (fun _ => HO.frz od (.dK kvs)) else E.H0 b) = some o := e
      rw [if_pos rfl] at e
      obtain ⟨_, _, e⟩ := Option.map_eq_some_iff.mp e
      rw [← e]
      exact upd_same
    · have e : (if b = a then (E.H0 a).map (fun _ => HO.frz od (.dK kvs)) else E.H0 b) = some o := e
      rw [if_neg z] at e
      rw [upd_ne z]
      exact R.base b o e nc
end
/-! ### walks over the keys -/
def iKy (i : Nat) : Fx Src := fun env st => match env[i]? with
  | some (.val (.dic ks _)) => some ((ks.map keyV, noChk), st)
  | _ => none
def tIK (mg : Glob) (i : Nat) : TI := fun σ H R => tI mg (iKy i) σ H R ∧ ∃ a o kvs, σ[i]? = some (some (.ref a)) ∧ H a = some (.frz o (.dK kvs))
theorem rep_keys {mg : Glob} {N : Prot} {c : List Addr} {H : Hp} {k : Key} : Rep mg N c H (kV k) (keyV k) := Rep.key
theorem il_keys {mg : Glob} {N : Prot} {c : List Addr} {H : Hp} {a : Addr} {o : Obj} {kvs : List (Key × V)} (ha : H a = some (.frz o (.dK kvs))) (n : ¬ N a) : ItL mg (Itk a o kvs) ((kvs.map (·.1)).map keyV, noChk) N c H where
  stop := fun N' c' H' st x W _ => by
    refine ⟨x.keep a _ ha n, ?_⟩
    show kvs.length ≤ ((kvs.map (·.1)).map keyV).length
    rw [List.length_map, List.length_map]
    exact Nat.le_refl _
  go := fun i N' c' H' st hi x W _ => by
    refine ⟨x.keep a _ ha n, ?_⟩
    have : i < ((kvs.map (·.1)).map keyV).length := hi
    rwa [List.length_map, List.length_map] at this
  yld := fun i N' c' H' st v H2 hi x W _ y => by
    obtain ⟨rfl, k, w, hk, rfl⟩ := y
    refine ⟨keyV k, ?_, Ex.refl, W, rep_keys⟩
    show ((kvs.map (·.1)).map keyV)[i]? = _
    rw [List.getElem?_map, List.getElem?_map, hk]
    rfl
section
variable {mg : Glob} {X : Cx} {tg : Expr} {pos : Pos}
theorem i_keys (i : Nat) {x : Str} {p : Pos} (hN : X.N[i]? = some x := by rfl) (hv : Vis X.env.scope x := by first | exact Or.inl rfl | exact Or.inr (Or.inl rfl) | exact Or.inr (Or.inr rfl)) (hd : (x == ("__debug__" : Str)) = false := by decide)
    (hcd : (x == ("__classdict__" : Str)) = false := by decide) : PI X tg (.Name x p) (tIK mg i) := pi_weak (pi_keys (pe_var hN hv hd hcd)) fun σ H R ⟨⟨E, N, c, env, st, xs, st', Rl, q, k⟩, a, o, kvs, hs, ha⟩ => by
  unfold iKy at q
  split at q
  · rename_i ks ds he
    cases q
    obtain ⟨v, ev, rv⟩ := Rl.sl i _ he
    have ev := join_some ev
    rw [hs] at ev
    cases ev
    refine ⟨.ref a, hs, a, o, rfl, .inl ⟨kvs, ha, ?_⟩⟩
    cases rv with
    | dic h _ _ _ => rw [ha] at h; cases h
    | dfz h n hn r =>
      rw [ha] at h
      cases h
      subst hn
      exact k _ N c H Ex.refl Rl.wd (il_keys ha n)
  · cases q
theorem pe_lockOr {e : Expr} {t : TE} (h : PE X e t) : PE X e (fun σ H Q => tLockE t σ H Q ∨ t σ H Q) := ⟨fun pins s σ H Q I q => q.elim (fun z => (pe_lock h).run pins s σ H Q I z) fun z => h.run pins s σ H Q I z⟩
variable {eltE : Expr} {ifs : List Expr} {scope : Scope} {own : List (Str × Nat)} {asg : D → Env → Option Env} {cond : SB} {elt : SE} {g : TG} {is : List Nat}
theorem r_lcK (hg : GOk mg g asg is) (hv : ∀ i ∈ is, i ∈ own.map (·.2)) {i : Nat} {σ : L2.St} {H : Hp} {Q : VK} (h : tL mg (lComp (iKy i) asg cond elt (own.map (·.2))) σ H Q) :
    tLockE (tLc (tIK mg i) g (tT mg cond) (tE mg elt) (own.map (·.2))) σ H Q ∨ tLc (tIK mg i) g (tT mg cond) (tE mg elt) (own.map (·.2)) σ H Q := by
  obtain ⟨E, N, c, env, st, d, st', R, q, k⟩ := h
  have q0 := q
  unfold lComp iKy at q
  split at q
  · cases q
  · rename_i src s1 q1
    split at q1
    · rename_i ks ds he
      obtain ⟨v, ev, rv⟩ := R.sl i _ he
      have ev := join_some ev
      cases rv with
      | dfz ha n hn r => exact .inr ⟨r_lc (fi := iKy i) hg hv ⟨E, N, c, env, st, d, st', R, q0, k⟩, _, _, _, ev, ha⟩
      | dic ha n hn r =>
        rename_i a kvs _
        refine .inl ⟨a, .dK kvs, ha, trivial, fun od => ⟨?_, a, od, kvs, ev, upd_same⟩⟩
        obtain ⟨E', R'⟩ := R.lock (od := od) ha n
        show tLc (tI mg (iKy i)) g (tT mg cond) (tE mg elt) (own.map (·.2)) σ _ (fun v H' => H' a = some (.frz od (.dK kvs)) ∧ Q v (upd H' a (.dK kvs)))
        refine r_lc (fi := iKy i) hg hv ⟨E', N, c, env, st, d, st', R', q0, fun v N' c' H' x W' rn => ?_⟩
        have nc : a ∉ c := fun z => n (R.wd.cn a z)
        have hf : H' a = some (.frz od (.dK kvs)) := x.keep a _ upd_same nc
        have n' : ¬ N' a := fun z => (x.new a z).elim n fun e => by rw [upd_same] at e; cases e
        have l : Lk N' H' (upd H' a (.dK kvs)) := lk_unlock hf n'
        refine ⟨hf, k v N' c' (upd H' a (.dK kvs)) ⟨fun b o e nb => ?_, fun b z => ?_, x.mono, x.pre, fun b z => ?_⟩ (W'.lk l) ?_⟩
        · by_cases z : b = a
          · subst z
            rw [ha] at e
            cases e
            exact upd_same
          · rw [upd_ne z]
            exact x.keep b o (by rw [upd_ne z]; exact e) nb
        · rcases x.new b z with y | y
          · exact .inl y
          · by_cases w : b = a
            · subst w; rw [upd_same] at y; cases y
            · rw [upd_ne w] at y; exact .inr y
        · rcases x.newc b z with y | y
          · exact .inl y
          · by_cases w : b = a
            · subst w; rw [upd_same] at y; cases y
            · rw [upd_ne w] at y; exact .inr y
        · obtain ⟨p, vs, rfl, hp, np, nc', hv', rr⟩ := rn
          have hpa : p ≠ a := fun z => by rw [z, hf] at hv'; cases hv'
          exact ⟨p, vs, rfl, by rw [upd_ne hpa] at hp; exact hp, np, nc', by rw [upd_ne hpa]; exact hv', rr.lk l⟩
    · cases q1
/-- [elt for key in d if ..] -/
theorem d_lcK (i : Nat) {x : Str} {p : Pos} (hc : X.calm = true) (hN : X.N.Nodup) (ok : BlkOk X.N X.env.scope scope own)
    (hgg : ∀ (s : Shared) (H : Hp) (C : Addr) (cl : List (Str × Addr)) (fp : List Addr), PG (X.blk s H scope (compEnvC scope cl C X.env) fp) tg g) (hg : GOk mg g asg is) (hv : ∀ i ∈ is, i ∈ own.map (·.2))
    (ht : ∀ (s : Shared) (H : Hp) (C : Addr) (cl : List (Str × Addr)) (fp : List Addr), PTs (X.blk s H scope (compEnvC scope cl C X.env) fp) ifs (tT mg cond))
    (he : ∀ (s : Shared) (H : Hp) (C : Addr) (cl : List (Str × Addr)) (fp : List Addr), PE (X.blk s H scope (compEnvC scope cl C X.env) fp) eltE (tE mg elt))
    (hx : X.N[i]? = some x := by rfl) (hvs : Vis X.env.scope x := by first | exact Or.inl rfl | exact Or.inr (Or.inl rfl) | exact Or.inr (Or.inr rfl)) (hd : (x == ("__debug__" : Str)) = false := by decide)
    (hcd : (x == ("__classdict__" : Str)) = false := by decide) (hs : ∀ y, foldedSetIterable (.Name x p) X.env y = pure y := by intro _; rfl) :
    PE X (.ListComp eltE [⟨tg, .Name x p, ifs, 0⟩] scope pos) (tL mg (lComp (iKy i) asg cond elt (own.map (·.2)))) :=
  pe_weak (pe_lockOr (pe_lc hc hN (i_keys i hx hvs hd hcd) ok hgg ht he hs)) fun _ _ _ h => r_lcK hg hv h
end
end LW

/-! LwYd: != of lists of equal things, dicts among them. -/
namespace PySem.SeqAt
open AutoSeq1 (wpAny_loadPart')
open MeetsSeq MeetsSeq2 MeetsSeq3 SeqRoads2
section
variable {P : Program} {w : World}
abbrev lw_obj (vs : Array Value) (n : Nat) (dd : Option Addr) (sl : Array (Option Value)) : Obj := { cls := .type "list", dict := dd, data := .seq vs n, slots := sl }
/-- the loop of != over two lists of equal items, from place i on -/
theorem lw_ne_loop (l b : Addr) (us vs : Array Value) (n m : Nat) (d1 d2 : Option Addr) (s1 s2 : Array (Option Value)) (hz : us.size = vs.size) (k : Nat) :
    ∀ i : Nat, us.size - i = k → MeetsIn P w (Builtin.«list.__eq__.loop» ⟨[.ref l, .ref b, rawInt i, rawInt 3], []⟩) (fun A R s => s.heap.get? l = some (lw_obj us n d1 s1) ∧ s.heap.get? b = some (lw_obj vs m d2 s2) ∧
      (∀ j (h1 : j < us.size) (h2 : j < vs.size), EqP P w A.in1 s us[j] vs[j] true) ∧ R (.ok (.ret (.bool false))) s) := by
  induction k with
  | zero =>
    intro i hk A R s ⟨hl, hb, he, h⟩
    obtain ⟨hp, g, d, tk, os⟩ := s
    wp_walk using wpAny_loadPart' hl, wpAny_loadPart' hb
    rw [show us[((i : Nat) : Int).toNat]? = none from by simp; omega, show vs[((i : Nat) : Int).toNat]? = none from by simp; omega]
    wp_walk using wpAny_loadPart' hl, wpAny_loadPart' hb
    show R (.ok (.ret (.bool (us.size != vs.size)))) _
    rw [hz, show (vs.size != vs.size) = false by simp]
    exact h
  | succ k ih =>
    intro i hk A R s ⟨hl, hb, he, h⟩
    obtain ⟨hp, g, d, tk, os⟩ := s
    wp_walk using wpAny_loadPart' hl, wpAny_loadPart' hb
    have q1 : i < us.size := by omega
    have q2 : i < vs.size := by omega
    rw [show us[((i : Nat) : Int).toNat]? = some us[i] from by simp [q1], show vs[((i : Nat) : Int).toNat]? = some vs[i] from by simp [q2]]
    refine wpAny_bind (he i q1 q2 _ _ ?_)
    wp_walk
    rw [show ((i : Int) + 1) = ((i + 1 : Nat) : Int) from by omega]
    exact ⟨plainId_quiet plain_eq_loop _, codeAny_builtin entry_eq_loop (by
      rw [Around.under_plainId plain_eq_loop]
      exact ih (i + 1) (by omega) A R _ ⟨hl, hb, he, h⟩)⟩
theorem lw_ne {A : Around} {s : Shared} {l b : Addr} {us vs : Array Value} (hl : s.heap.IsList l us) (hb : s.heap.IsList b vs) (hz : us.size = vs.size) (hu : A.units < cLine)
    (he : ∀ j (h1 : j < us.size) (h2 : j < vs.size), EqP P w A.in1 s us[j] vs[j] true) (E Q : Value → Shared → Prop) (h : Q (.bool false) s) : wpAny (model P w) A (richCompare .NotEq (.ref l) (.ref b)) Q E s := by
  obtain ⟨⟨c1, d1, da1, s1⟩, o1, e1, n, f1⟩ := id hl
  obtain ⟨⟨c2, d2, da2, s2⟩, o2, e2, m, f2⟩ := id hb
  simp only at e1 f1 e2 f2
  subst e1 f1 e2 f2
  have meets : MeetsIn P w (Builtin.«list.__ne__» ⟨[.ref l, .ref b], []⟩) (fun A R s => s.heap.get? l = some (lw_obj us n d1 s1) ∧ s.heap.get? b = some (lw_obj vs m d2 s2) ∧
      (∀ j (h1 : j < us.size) (h2 : j < vs.size), EqP P w A.in1 s us[j] vs[j] true) ∧ R (.ok (.ret (.bool false))) s) := by
    intro A R s ⟨hl, hb, he, h⟩
    obtain ⟨hp, g, d, tk, os⟩ := s
    have sub := AutoSeq1.sub_list_list
    have hne : ¬ (us.size != vs.size) = true := by simp [hz]
    wp_walk using wpAny_loadPart' hl, wpAny_loadPart' hb
    exact ⟨plainId_quiet plain_eq_loop _, codeAny_builtin entry_eq_loop (by
      rw [Around.under_plainId plain_eq_loop]
      exact lw_ne_loop l b us vs n m d1 d2 s1 s2 hz _ 0 rfl A R _ ⟨hl, hb, he, h⟩)⟩
  exact wpAny_richCompare_same_room (op := .NotEq) ⟨_, o1, rfl⟩ ⟨_, o2, rfl⟩ F.slot_list_ne (call_meetsIn F.slot_list_ne ⟨_, o1, rfl⟩ F.entry_list_ne (F.args_list_ne_2 _ _) meets
    ⟨o1, o2, he, show Value.bool false ≠ Value.notImplemented ∧ Q (.bool false) s from ⟨(fun x => nomatch x), h⟩⟩) hu
end
end PySem.SeqAt
namespace LW
open PySem L2 PyProof.Rows
section
variable {X : Cx} {pins : List (Addr × Obj)} {σ : L2.St} {H : Hp} {s : Shared}
end
/-! ### equal data -/
def all2 {α : Type} (f : α → α → Bool) : List α → List α → Bool
  | [], [] => true
  | x :: xs, y :: ys => f x y && all2 f xs ys
  | _, _ => false
section
variable {mg : Glob} {N : Prot} {c : List Addr} {H : Hp} {st : Sto}
end
section
variable {mg : Glob} {X : Cx} {a b : Expr} {pos : Pos} {fa fb : SE}
end
/-! ### a dict of the frame's own -/
def sOwnD (i : Nat) (f : Fx DK) : SS := fun env st => match f env st with
  | some (d, s1) => some (.nx (env.set i (.ownD d.1 d.2)), s1)
  | none => none
section
variable {mg : Glob} {X : Cx} {e ej : Expr} {pos tpos : Pos} {fe fj : SE} {fl : Fx DK}
end
end LW

/-! LwYe: {k: v, ..}. -/
namespace LW
open PySem L2 PyProof.Rows
def evP : List (SE × SE) → Fx (List (Key × D))
  | [] => fun _ st => some ([], st)
  | (a, b) :: r => fun env st => match a env st with
    | some (x, s1) => (match keyD x with
      | some k => (match b env s1 with
        | some (y, s2) => (match evP r env s2 with
          | some (l, s3) => some ((k, y) :: l, s3)
          | none => none)
        | none => none)
      | none => none)
    | none => none
def lDd (l : List (SE × SE)) : Fx DK := fun env st => match evP l env st with
  | some (ps, s1) => if ps.length ≤ 15 then some (mergeD ([], []) ps, s1) else none
  | none => none
section
variable {mg : Glob}
abbrev trP (mg : Glob) (l : List (SE × SE)) : List (TE × TE) := l.map fun p => (tE mg p.1, tE mg p.2)
theorem r_pairs {E : En} {σ : L2.St} : ∀ {l : List (SE × SE)} {N : Prot} {c : List Addr} {H : Hp} {env : Env} {st st' : Sto} {ps : List (Key × D)} {Q : List (V × V) → Hp → Prop}, Rel mg E N c env st σ H → evP l env st = some (ps, st') →
    (∀ (kvs : List (Key × V)) N' c' H', Ex N c H N' c' H' → Wd mg N' c' H' st' → kvs.map (·.1) = ps.map (·.1) → RepL mg N' c' H' (kvs.map (·.2)) (ps.map (·.2)) → Q (kvs.map fun kv => (kV kv.1, kv.2)) H') → tPairs (trP mg l) σ H Q
  | [], N, c, H, env, st, st', ps, Q, R, q, k => by
    cases q
    exact k [] N c H Ex.refl R.wd rfl .nil
  | (a, b) :: r, N, c, H, env, st, st', ps, Q, R, q, k => by
    unfold evP at q
    split at q
    · rename_i x s1 q1
      split at q
      · rename_i kk hk
        split at q
        · rename_i y s2 q2
          split at q
          · rename_i l s3 q3
            cases q
            refine ⟨E, N, c, env, st, x, s1, R, q1, fun u N1 c1 H1 x1 W1 r1 => ⟨E, N1, c1, env, s1, y, s2, R.ex x1 W1, q2, fun v N2 c2 H2 x2 W2 r2 => ?_⟩⟩
            refine r_pairs ((R.ex x1 W1).ex x2 W2) q3 fun kvs N3 c3 H3 x3 W3 e r3 => ?_
            have eu := RepT.key (.inl r1) hk
            subst eu
            exact k ((kk, v) :: kvs) N3 c3 H3 ((x1.trans x2 R.wd).trans x3 R.wd) W3 (by rw [List.map_cons, List.map_cons, e]) (.cons (Rep.tr (x3.tr W2) r2) r3)
          · cases q
        · cases q
      · cases q
    · cases q
variable {X : Cx} {pos : Pos} {keys : List (Option Expr)} {values : List Expr} {l : List (SE × SE)}
theorem dd_nil : PPs X pos [] [] (trP mg []) := pps_nil
theorem dd_cons {k v : Expr} {a b : SE} (hk : PE X k (tE mg a)) (hv : PE X v (tE mg b)) (hr : PPs X pos keys values (trP mg l)) : PPs X pos (some k :: keys) (v :: values) (trP mg ((a, b) :: l)) := pps_cons hk hv hr
theorem d_disp (h : PPs X pos keys values (trP mg l)) (hall : keys.all (·.isSome) = true := by rfl) (hl : keys.length = values.length := by rfl) (h0 : keys ≠ [] := by exact fun z => nomatch z) (h15 : keys.length ≤ 15 := by decide) : PE X (.Dict keys values pos) (tD mg (lDd l)) :=
  pe_weak (pe_disp h hall hl h0 h15) fun σ H Q ⟨E, N, c, env, st, d, st', R, q, k⟩ => by
    unfold lDd at q
    split at q
    · rename_i ps s1 q1
      split at q
      · rename_i hl
        cases q
        intro p hp
        have x0 := Ex.laidN (o := .dK []) R.wd hp
        have W0 := R.wd.laidN (o := .dK []) hp
        refine r_pairs (R.ex x0 W0) q1 fun kvs N2 c2 H2 x2 W2 e r2 => ?_
        have nc : p ∉ c := R.wd.cnone hp
        have hp2 : H2 p = some (.dK []) := x2.keep p _ upd_same nc
        have np : N2 p := x2.mono p (.inr rfl)
        have nc2 : p ∉ c2 := x2.nc W0 upd_same nc
        obtain ⟨m1, m2⟩ := merge_rel (l := ps) (more := kvs) (kvs := []) (ds := []) .nil e r2
        have tr : Tr N2 c2 H2 N2 c2 (upd H2 p (.dK (mergeK [] kvs))) := ⟨fun b o h n => by rw [upd_ne fun z => n (by rw [z]; exact np)]; exact h, fun _ z => .inl z, fun _ _ z => z, fun b us e => by rw [upd_ne (fun z => by rw [z, hp2] at e; cases e)]; exact e⟩
        refine ⟨hp2, kvs, rfl, ?_, k (.ref p) N2 c2 _ ⟨fun b o h n => ?_, fun b z => ?_, fun b z => x2.mono b (.inl z), x2.pre, fun b z => ?_⟩ ⟨W2.len, fun j b xs h1 h2 => ?_, W2.cn, W2.nd, fun b z => ?_⟩ ⟨p, _, rfl, hp, np, nc2, upd_same, m1, m2.tr tr⟩⟩
        · have := congrArg List.length e
          rw [List.length_map, List.length_map] at this
          omega
        · have : b ≠ p := ne_of_none h hp
          rw [upd_ne this]
          exact x2.keep b o (by rw [upd_ne this]; exact h) n
        · rcases x2.new b z with (y | y) | y
          · exact .inl y
          · exact .inr (by rw [y]; exact hp)
          · by_cases w : b = p
            · rw [w, upd_same] at y; cases y
            · rw [upd_ne w] at y; exact .inr y
        · rcases x2.newc b z with y | y
          · exact .inl y
          · by_cases w : b = p
            · rw [w, upd_same] at y; cases y
            · rw [upd_ne w] at y; exact .inr y
        · obtain ⟨vs, hb, rr⟩ := W2.sto j b xs h1 h2
          exact ⟨vs, by rw [upd_ne (show b ≠ p from fun z => nc2 (z ▸ List.mem_of_getElem? h1))]; exact hb, rr.tr tr⟩
        · by_cases w : b = p
          · rw [w, upd_same]; exact fun y => nomatch y
          · rw [upd_ne w]; exact W2.trk b z
      · cases q
    · cases q
end
end LW

/-! LwYf: set(list of texts), sorted. -/
namespace LW
open PySem L2 PySem.Spec PyProof.Rows
/-! ### what a set of texts is -/
def txOf (e : Int × Value) : Str := match e.2 with
  | .str k _ => k
  | _ => ⟨#[]⟩
def TxE (w : World) (e : Int × Value) : Prop := ∃ k tk, e.2 = Value.str k tk ∧ e.1 = hashStr w k
abbrev txL (es : Array (Int × Value)) : List Str := es.toList.map txOf
/-- the table and the rows of a set that holds just the texts l -/
structure TxT (w : World) (es : Array (Int × Value)) (t : SetTable) (l : List Str) : Prop where
  row : ∀ e ∈ es.toList, TxE w e
  nd : (txL es).Nodup
  mem : ∀ k, k ∈ l ↔ k ∈ txL es
  few : es.size < scanBound
  fit : t.fits es.size = true
  ris : Ris t.place.toList
  led : w.params.followText "set-order" = true ∨ t.led = true
def SetS (w : World) (h : Heap) (a : Addr) (l : List Str) (n : Nat) : Prop := ∃ o es ep t, h.get? a = some o ∧ o.ExactSet ∧ o.data = .set es ep t ∧ TxT w es t l ∧ es.size = n
section
variable {P : Program} {w : World} {A : Around} {E : Value → Shared → Prop} {s : Shared} {a : Addr} {l : List Str} {n : Nat}
theorem SetS.at {h h' : Heap} (R : SetS w h a l n) (k : ∀ o, h.get? a = some o → h'.get? a = some o) : SetS w h' a l n := by
  obtain ⟨o, es, ep, t, ho, r⟩ := R
  exact ⟨o, es, ep, t, k o ho, r⟩
theorem tx_is (k : Str) (u : Tok) : (strKind P w).is k (.str k u) = true := by
  show Value.isStrOf k (.str k u) = true
  simp [Value.isStrOf]
theorem tx_elems {xs : List (Int × Value)} (g : ∀ e ∈ xs, TxE w e) : ElemsOf (strKind P w) xs := fun e he => by
  obtain ⟨k, tk, h1, h2⟩ := g e he
  exact ⟨⟨k, by rw [h1]; exact tx_is k tk, h2⟩, by rw [h1]; rfl⟩
theorem tx_key {e : Int × Value} (g : TxE w e) (k : Str) : (strKind P w).is k e.2 = true ↔ txOf e = k := by
  obtain ⟨z, tk, h1, _⟩ := g
  unfold txOf
  rw [h1]
  constructor
  · intro h
    exact (strKind P w).inj (.str z tk) z k (tx_is z tk) h
  · rintro rfl
    exact tx_is z tk
theorem tx_mem {xs : List (Int × Value)} (g : ∀ e ∈ xs, TxE w e) (k : Str) : k ∈ xs.map txOf ↔ ∃ e ∈ xs, (strKind P w).is k e.2 = true := by
  rw [List.mem_map]
  exact ⟨fun ⟨e, he, q⟩ => ⟨e, he, (tx_key (g e he) k).mpr q⟩, fun ⟨e, he, q⟩ => ⟨e, he, (tx_key (g e he) k).mp q⟩⟩
theorem TxT.perm {es es' : Array (Int × Value)} {t t' : SetTable} (T : TxT w es t l) (p : es'.toList.Perm es.toList) (hf : t'.fits es'.size = true) (hr : Ris t'.place.toList) (hl : t'.led = t.led) : TxT w es' t' l where
  row := fun e he => T.row e (p.mem_iff.mp he)
  nd := (p.map txOf).nodup_iff.mpr T.nd
  mem := fun k => (T.mem k).trans (p.map txOf).mem_iff.symm
  few := by rw [show es'.size = es.size by rw [← Array.length_toList, p.length_eq, Array.length_toList]]; exact T.few
  fit := hf
  ris := hr
  led := T.led.imp id fun z => hl.trans z
theorem TxT.add {es es' : Array (Int × Value)} {t t' : SetTable} {k : Str} {tk : Tok} (T : TxT w es t l) (nk : k ∉ txL es) (p : es'.toList.Perm ((hashStr w k, Value.str k tk) :: es.toList)) (room : es.size + 1 < scanBound) (hf : t'.fits es'.size = true) (hr : Ris t'.place.toList) (hl : t'.led = t.led) : TxT w es' t' (k :: l) where
  row := fun e he => by
    rcases List.mem_cons.mp (p.mem_iff.mp he) with z | z
    · rw [z]; exact ⟨k, tk, rfl, rfl⟩
    · exact T.row e z
  nd := (p.map txOf).nodup_iff.mpr (List.nodup_cons.mpr ⟨nk, T.nd⟩)
  mem := fun j => by
    rw [(p.map txOf).mem_iff, List.map_cons, List.mem_cons, List.mem_cons, T.mem j]
    rfl
  few := by rw [show es'.size = es.size + 1 by rw [← Array.length_toList, p.length_eq, List.length_cons, Array.length_toList]]; exact room
  fit := hf
  ris := hr
  led := T.led.imp id fun z => hl.trans z
/-- the end of an add: stored, and laid anew where the table is too full -/
theorem tx_tail {g : Bool → Sem Unit} (hg : ∀ (b : Bool) (s₁ : Shared) (Q' : Unit → Shared → Prop), Q' () s₁ → wpAny (model P w) A (g b) Q' E s₁) {o : Obj} {es : Array (Int × Value)} {ep : Nat} {t : SetTable}
    (ho : s.heap.get? a = some o) (hx : o.ExactSet) (hd : o.data = .set es ep t) {es1 : Array (Int × Value)} {t2 : SetTable} (T : TxT w es1 t2 l) {dummy : Bool} {R : Option Bool → Shared → Prop}
    (hR : ∀ h', Heap.SameBut a s.heap h' → SetS w h' a l es1.size → R (some true) { s with heap := h' }) :
    wpAny (model P w) A (do
        storeSet a es1 t2
        if (!dummy && t2.tooFull) = true then do
            g (relayAll t2 es1 (SetTable.grown es1.size)).2.2
            storeSet a (relayAll t2 es1 (SetTable.grown es1.size)).1 (relayAll t2 es1 (SetTable.grown es1.size)).2.1
            pure (some true)
          else pure (some true)) R E s := by
  refine wpAny_bind (wpAny_storeSet_of ho hd ?_ (fits_of_scanBound T.few))
  have o1 := store_at (es' := es1) (t' := t2) ho hd
  have b1 := Heap.SameBut.update s.heap a (Obj.putSet es1 t2)
  split
  · have T' := T.perm (relayAll_perm t2 es1 (SetTable.grown es1.size)) (relayAll_fits t2 es1 (SetTable.grown es1.size)) (relayAll_ris t2 es1 (SetTable.grown es1.size)) (relayAll_led t2 es1 (SetTable.grown es1.size))
    have pz := (relayAll_perm t2 es1 (SetTable.grown es1.size)).length_eq
    rw [Array.length_toList, Array.length_toList] at pz
    generalize relayAll t2 es1 (SetTable.grown es1.size) = Z at T' pz ⊢
    refine wpAny_bind (hg _ _ _ (wpAny_bind (wpAny_storeSet_of o1 rfl ?_ (fits_of_scanBound T'.few))))
    exact wpAny_pure (hR _ (b1.trans (Heap.SameBut.update _ a _)) ⟨_, Z.1, _, Z.2.1, store_at o1 rfl, hx, rfl, T', pz⟩)
  · exact wpAny_pure (hR _ b1 ⟨_, es1, _, t2, o1, hx, rfl, T, rfl⟩)
/-- one text more -/
theorem tx_add {k : Str} {tk : Tok} {Q : Bool → Shared → Prop} (R : SetS w s.heap a l n) (room : n + 1 < scanBound)
    (hQ : ∀ h' b m, Heap.SameBut a s.heap h' → SetS w h' a (k :: l) m → m ≤ n + 1 → Q b { s with heap := h' }) : wpAny (model P w) A (setAddHashed a (.str k tk) ((strKind P w).hash k)) Q E s := by
  obtain ⟨o, es, ep, t, ho, hx, hd, T, hn⟩ := R
  have el : ElemsOf (strKind P w) es.toList := tx_elems T.row
  unfold setAddHashed setAddHashedIn
  refine wpAny_holding (wpAny_bind (wpAny_setState_of ho hd T.fit ?_))
  dsimp only
  rw [byScan_of (show (Value.str k tk).scannable = true from rfl) T.few el, if_pos rfl]
  unfold setAddByScan
  refine wpAny_bind (wpAny_bind (wpAny_rule (wpAny_bind (wpAny_setScan_of (tx_is k tk) ho hd T.fit el ?_))))
  cases hfi : List.findIdx? (fun e => (strKind P w).is k e.2) es.toList with
  | some j =>
    dsimp only
    obtain ⟨hj, pj, _⟩ := List.findIdx?_eq_some_iff_getElem.mp hfi
    have hk : k ∈ txL es := (tx_mem (P := P) (w := w) T.row k).mpr ⟨es.toList[j], List.getElem_mem hj, pj⟩
    refine wpAny_pure (wpAny_pure (hQ s.heap _ n (Heap.SameBut.refl a s.heap) ⟨o, es, ep, t, ho, hx, hd, ⟨T.row, T.nd, fun i => ?_, T.few, T.fit, T.ris, T.led⟩, hn⟩ (Nat.le_succ _)))
    rw [List.mem_cons, T.mem i]
    exact ⟨fun z => z.elim (fun y => by rw [y]; exact hk) id, .inr⟩
  | none =>
    dsimp only
    have nk : k ∉ txL es := fun z => by
      obtain ⟨e, he, q⟩ := (tx_mem (P := P) (w := w) T.row k).mp z
      have := List.findIdx?_eq_none_iff.mp hfi e he
      rw [q] at this
      cases this
    have gave : ∀ (b : Bool) {s₁ : Shared} {Q' : Unit → Shared → Prop}, Q' () s₁ → wpAny (model P w) A (match b with | true => rule "set.scan.the-table-gave-way" | false => pure ()) Q' E s₁ :=
      fun b s₁ Q' q => by cases b <;> first | exact wpAny_pure q | exact wpAny_rule q
    have pm := layNew_perm t es ((strKind P w).hash k) (.str k tk)
    have hf1 := layNew_fits t es ((strKind P w).hash k) (.str k tk)
    have hr1 := layNew_ris t es ((strKind P w).hash k) (.str k tk) T.ris
    have hl1 := layNew_led t es ((strKind P w).hash k) (.str k tk)
    generalize layNew t es ((strKind P w).hash k) (.str k tk) = Z at pm hf1 hr1 hl1 ⊢
    obtain ⟨es1, t1, dm, gv⟩ := Z
    dsimp only at pm hf1 hr1 hl1 ⊢
    rw [Array.toList_push] at pm
    have pc : es1.toList.Perm ((hashStr w k, Value.str k tk) :: es.toList) := pm.trans (List.perm_append_singleton _ _)
    have hz : es1.size = n + 1 := by rw [← Array.length_toList, pc.length_eq, List.length_cons, Array.length_toList, hn]
    have T1 : ∀ t' : SetTable, t'.fits es1.size = true → Ris t'.place.toList → t'.led = t.led → TxT w es1 t' (k :: l) := fun t' f r d => T.add nk pc (by omega) f r d
    have fin : ∀ h' b, Heap.SameBut a s.heap h' → SetS w h' a (k :: l) es1.size → Q b { s with heap := h' } := fun h' b sb r => hQ h' b _ sb r (by omega)
    refine wpAny_bind (gave _ ?_)
    split
    · refine wpAny_bind ?_
      rw [hashByValue_scannable 8 (show (Value.str k tk).scannable = true from rfl)]
      refine wpAny_pure ?_
      refine tx_tail (l := k :: l) (fun b s₁ Q' q => by cases b <;> first | exact wpAny_pure q | exact wpAny_rule q) ho hx hd (T1 _ ?_ ?_ ?_) fun h' sb r => wpAny_pure (fin h' _ sb r)
      · first | (split <;> first | exact hf1 | exact SetTable.fits_plain_off hf1) | exact hf1
      · first | (split <;> exact hr1) | exact hr1
      · first | (split <;> exact hl1) | exact hl1
    · refine wpAny_bind (wpAny_pure ?_)
      simp only [↓reduceIte]
      exact tx_tail (l := k :: l) (fun b s₁ Q' q => by cases b <;> first | exact wpAny_pure q | exact wpAny_rule q) ho hx hd (T1 _ hf1 hr1 hl1) fun h' sb r => wpAny_pure (fin h' _ sb r)
end
end LW

/-! LwYg: set(list of texts), sorted(..) of it. -/
namespace LW
open PySem L2 PySem.Spec PyProof.Rows
section
variable {P : Program} {w : World} {A : Around} {E : Value → Shared → Prop} {s : Shared}
theorem SetS.same {h : Heap} {a : Addr} {l l' : List Str} {n : Nat} (R : SetS w h a l n) (e : ∀ k, k ∈ l ↔ k ∈ l') : SetS w h a l' n := by
  obtain ⟨o, es, ep, t, ho, hx, hd, T, hn⟩ := R
  exact ⟨o, es, ep, t, ho, hx, hd, ⟨T.row, T.nd, fun k => (e k).symm.trans (T.mem k), T.few, T.fit, T.ris, T.led⟩, hn⟩
/-- the loop of set.update over texts -/
theorem tx_loop {I : Addr} {fp wr : List Addr} {G : Array GenState → Array GenState → Prop} {n : Nat} {Pv : Nat → Value → Prop} {St : Nat → Shared → Prop} {R : Result → Shared → Prop}
    (W : WalksS P w A.in1 I fp wr G n Pv St) (S : Addr) (hS : S ∉ fp) (zs : List Str) (hn : n = zs.length) (hb : zs.length + 1 < scanBound) (hv : ∀ i v, Pv i v → ∃ k t, zs[i]? = some k ∧ v = .str k t) :
    ∀ (m i : Nat) (s : Shared), n - i = m → i ≤ n → St i s → (∃ c, c ≤ i ∧ SetS w s.heap S (zs.take i) c) →
      (∀ s' c, Moved (S :: wr) G s s' → c ≤ n → SetS w s'.heap S zs c → R (.ok (.ret .none)) s') → codeAny (model P w) A (.builtin "set.update.loop" ⟨[.ref S, .ref I], []⟩) R s
  | 0, i, s, hm, hi, hst, ⟨c, hc, hs⟩, hR => by
    have hin : i = n := by omega
    subst hin
    refine codeAny_builtin F.entry_set_update_loop ?_
    rw [Around.under_plainId F.plain_set_update_loop]
    show wpAny _ A.in1 (pyNext (.ref I) >>= _) _ _ s
    refine wpAny_bind (W.done s _ _ hst fun s' mv => ?_)
    show wpAny _ A.in1 (ret Value.none) _ _ s'
    rw [List.take_of_length_le (by omega)] at hs
    exact wpAny_pure (hR s' c (mv.mono fun b hb => List.mem_cons_of_mem _ hb) hc (hs.at fun o e => mv.heap S o (fun z => hS (W.sub _ z)) e))
  | m + 1, i, s, hm, hi, hst, ⟨c, hc, hs⟩, hR => by
    have lt : i < n := by omega
    have sub : ∀ b ∈ wr, b ∈ S :: wr := fun b hb => List.mem_cons_of_mem _ hb
    refine codeAny_builtin F.entry_set_update_loop ?_
    rw [Around.under_plainId F.plain_set_update_loop]
    show wpAny _ A.in1 (pyNext (.ref I) >>= _) _ _ s
    refine wpAny_bind (W.item i s _ _ lt hst fun v s' hP hst' mv => ?_)
    obtain ⟨z, t, hz, rfl⟩ := hv i v hP
    have hs' : SetS w s'.heap S (zs.take i) c := hs.at fun o e => mv.heap S o (fun y => hS (W.sub _ y)) e
    show wpAny _ A.in1 (holding [Value.str z t] (setAdd S (.str z t)) >>= _) _ _ s'
    refine wpAny_bind (wpAny_holding ?_)
    unfold setAdd
    refine wpAny_holding (wpAny_bind ((strKind P w).pyHash (k := z) (tx_is z t) ?_))
    refine tx_add (s := { s' with toks := s'.toks + 1 }) hs' (by omega) fun h' b c' sb hs2 hc' => ?_
    have hs3 : SetS w h' S (zs.take (i + 1)) c' := hs2.same fun k => by
      rw [List.take_add_one, hz, List.mem_cons, List.mem_append]
      simp [Or.comm]
    refine wpAny_pure ⟨plainId_quiet F.plain_set_update_loop _, tx_loop W S hS zs hn hb hv m (i + 1) _ (by omega) lt (W.frame _ s' _ _ hst' (Nat.le_succ _) fun b hb o e => ?_) ⟨c', by omega, hs3⟩ fun s'' c2 mv2 hc2 hs4 => ?_⟩
    · rw [sb.2 b fun h => hS (by rw [← h]; exact hb)]; exact e
    · refine hR s'' c2 (Moved.trans W.gtrans ((mv.mono sub).then_heap (Nat.le_succ _) fun b o hb e => ?_) mv2) hc2 hs4
      rw [sb.2 b fun h => hb (by rw [h]; exact List.mem_cons_self)]; exact e
theorem setS_new {h : Heap} {a : Addr} {zs : List Str} (ho : h.get? a = some (nS w)) : SetS w h a (zs.take 0) 0 :=
  ⟨_, #[], 0, _, ho, ⟨rfl, rfl, rfl⟩, rfl, ⟨fun e he => by simp at he, List.Pairwise.nil, fun k => by simp [txL], by decide, by rfl, List.Pairwise.nil, by
    show _ ∨ (!w.params.followText "set-order") = true
    cases w.params.followText "set-order"
    · exact .inr rfl
    · exact .inl rfl⟩, rfl⟩
abbrev SetEndS (w : World) (s : Shared) (zs : List Str) (E : Value → Shared → Prop) : Result → Shared → Prop :=
  wants (fun r s₂ => r = .none ∧ ∃ h' tk c, s₂ = { s with heap := h', toks := tk } ∧ SetS w h' s.heap.objs.size zs c ∧ c ≤ zs.length ∧ (∀ b o, s.heap.get? b = some o → h'.get? b = some o)) E
theorem str_at {vs : List Value} {zs : List Str} (h : Vals (zs.map V.str) vs) {i : Nat} {v : Value} (e : vs[i]? = some v) : ∃ k t, zs[i]? = some k ∧ v = .str k t := by
  induction zs generalizing vs i with
  | nil => cases h; simp at e
  | cons z zs ih =>
    cases h with
    | cons a b =>
      obtain ⟨t, rfl⟩ := a
      cases i with
      | zero => simp at e; exact ⟨z, t, rfl, e.symm⟩
      | succ i => exact ih b (by simpa using e)
set_option maxHeartbeats 8000000 in
theorem setT {l : Addr} {items : Array Value} (zs : List Str) {Q : Value → Shared → Prop} (hh : A.handled = none) (hl : s.heap.IsList l items) (hit : Vals (zs.map V.str) items.toList) (hb : zs.length + 1 < scanBound)
    (h : ∀ (h' : Heap) (tk c : Nat), SetS w h' s.heap.objs.size zs c → c ≤ zs.length → (∀ b o, s.heap.get? b = some o → h'.get? b = some o) → Q (.ref s.heap.objs.size) { s with heap := h', toks := tk }) :
    wpAny (model P w) A (call (.type "set") [.ref l]) Q E s := by
  have hisz : items.size = zs.length := by rw [← Array.length_toList, ← hit.length, List.length_map]
  obtain ⟨c, tl, hmro⟩ := F.called_set.mro
  have hmade := F.called_set.made
  have hsub := F.called_set.sub
  refine wpAny_call (codeAny_of_tree ?_)
  show wpAny _ _ (callAny (.type "set") _) _ _ _
  refine wpAny_pure ⟨Code.quiet_builtin _ (by decide +kernel), codeAny_builtin F.entry_type_call ?_⟩
  rw [Around.under_plain (weight_type_call_type "set" [.ref l] []) rfl]
  have h1 := F.called_set.notType
  have h2 := F.called_set.canCreate
  have hct := F.typeCall_set_1 (.ref l)
  repeat (any_goals (first | assumption | wp_step))
  refine codeAny_mono (code_set_led1 (.ref l) (E := E) (Q₁ := fun obj s₁ => obj = .ref s.heap.objs.size ∧ s₁ = { s with heap := pS w s }) ⟨rfl, rfl⟩) fun r s₁ hr => ?_
  cases r with
  | error e => exact hr
  | ok fl =>
    cases fl with
    | ret obj =>
      obtain ⟨rfl, rfl⟩ := hr
      have hS : (pS w s).get? s.heap.objs.size = some (nS w) := Heap.get?_push_size _ rfl
      have hT : Shared.TypeIs { s with heap := pS w s } (.ref s.heap.objs.size) "set" := ⟨_, hS, rfl⟩
      have hli := F.called_set.init.lookup
      have hbi := F.called_set.init.bind (.ref s.heap.objs.size)
      repeat (any_goals (first | assumption | wp_step))
      refine codeAny_mono (codeAny_call_builtin (R := SetEndS w s zs E) F.called_set.init.plain F.entry_set_init (check_set_init_1 hT ?_)) fun r₂ s₂ hr₂ => ?_
      · obtain ⟨ol, hol, hcl, nl, hdl⟩ := hl
        obtain ⟨ocls, odict, odata, oslots⟩ := ol
        simp only at hcl hdl
        subst hcl; subst hdl
        have hol' : (pS w s).get? l = some { cls := .type "list", dict := odict, data := .seq items nl, slots := oslots } := Heap.get?_push_of_some _ hol
        have hsls := F.sub_list_set
        have hslf := F.sub_list_frozenset
        have hne : (Value.type "list" == Value.type "dict") = false := by decide
        have hl1 : (pS w s).IsList l items := ⟨_, hol', rfl, nl, rfl⟩
        unfold Builtin.«set.__init__» noKeywords Builtin.Frozenset.updateFrom
        generalize hPI : pyIter = PI
        wp_walk
        subst hPI
        refine wpAny_pyIter_list hl1 ?_
        refine wpAny_bind (wpAny_runValue ?_)
        have hlS : l < s.heap.objs.size := Heap.lt_size hol
        have hh3 : A.in1.in1.in1.handled = none := by simp [hh]
        have hz1 : (pS w s).objs.size = s.heap.objs.size + 1 := Heap.size_push ..
        have hneI : l ≠ (pS w s).objs.size := hz1 ▸ Nat.ne_of_lt (Nat.lt_succ_of_lt hlS)
        have hSf : s.heap.objs.size ∉ [(pS w s).objs.size, l] := by
          rw [hz1]
          intro z
          rcases List.mem_cons.mp z with z | z
          · exact absurd z (Nat.ne_of_lt (Nat.lt_succ_self _))
          · exact absurd (List.mem_singleton.mp z) (Nat.ne_of_gt hlS)
        refine tx_loop ((Walks.list hh3 _ l hneI items).toS) s.heap.objs.size hSf zs hisz hb (fun i v hv => str_at hit (by rw [Array.getElem?_toList]; exact hv)) (items.size - 0) 0 _ (by omega) (Nat.zero_le _) ⟨⟨_, Heap.get?_push_size _ rfl, rfl, rfl⟩, (hl1.push _)⟩ ?hS0 ?hR
        case hS0 => exact ⟨0, Nat.le_refl 0, setS_new (Heap.get?_push_of_some _ hS)⟩
        case hR =>
          intro s' c' hm hc' hS'
          obtain ⟨h', g2, d', tk', os'⟩ := s'
          have eg : g2 = s.gens := hm.gens
          have ed : d' = s.drawn := hm.drawn
          have eo : os' = s.os := hm.os
          subst eg; subst ed; subst eo
          show wpAny _ _ _ _ _ _
          refine wpAny_pure ?_
          show wpAny _ _ (ret Value.none) _ _ _
          rw [hisz] at hc'
          refine wpAny_pure ⟨rfl, h', tk', c', rfl, hS', hc', fun b o e => ?_⟩
          have hb0 : b < s.heap.objs.size := Heap.lt_size e
          refine hm.heap b o ?_ (Heap.get?_push_of_some _ (Heap.get?_push_of_some _ e))
          rw [hz1]
          intro z
          rcases List.mem_cons.mp z with z | z
          · exact absurd z (Nat.ne_of_lt hb0)
          · exact absurd (List.mem_singleton.mp z) (Nat.ne_of_lt (Nat.lt_succ_of_lt hb0))
      · cases r₂ with
        | error e => exact hr₂
        | ok fl₂ =>
          cases fl₂ with
          | ret r =>
            obtain ⟨rfl, h', tk, c', rfl, hS', hc', hk'⟩ := hr₂
            repeat (any_goals (first | assumption | wp_step))
            exact h _ _ _ hS' hc' hk'
          | _ => exact hr₂.elim
    | _ => exact hr.elim
theorem strs_of : ∀ (l : List Value), (∀ v ∈ l, ∃ k tk, v = Value.str k tk) → ∃ zs : List Str, Vals (zs.map V.str) l
  | [], _ => ⟨[], .nil⟩
  | v :: l, h => by
    obtain ⟨k, tk, rfl⟩ := h v List.mem_cons_self
    obtain ⟨zs, q⟩ := strs_of l fun u hu => h u (List.mem_cons_of_mem _ hu)
    exact ⟨k :: zs, .cons ⟨tk, rfl⟩ q⟩
theorem vals_tx : ∀ {zs : List Str} {l : List Value}, Vals (zs.map V.str) l → zs = l.map fun v => txOf (0, v)
  | [], _, .nil => rfl
  | z :: zs, _, .cons ⟨t, e⟩ r => by
    subst e
    rw [List.map_cons, ← vals_tx r]
    rfl
/-- sorted of a set of texts -/
theorem sortedT {a : Addr} {l : List Str} {n : Nat} {Q : Value → Shared → Prop} (R : SetS w s.heap a l n) (hh : A.handled = none) (h64 : n < 64)
    (hQ : ∀ s' p (out : Array Value) (c : Nat) (ys : List Str), (∀ b o, s.heap.get? b = some o → s'.heap.get? b = some o) → s'.gens = s.gens → s'.os = s.os → s.heap.objs.size ≤ p →
      s'.heap.get? p = some (seqObj "list" out c) → Vals (ys.map V.str) out.toList → sortedS ys = true → ys.Nodup → (∀ k, k ∈ ys ↔ k ∈ l) → Q (.ref p) s') :
    wpAny (model P w) A (call (.builtin "sorted") [.ref a]) Q E s := by
  obtain ⟨o, es, ep, t, ho, hx, hd, T, hn⟩ := R
  refine Calls.call_function_entry kind_sorted plain_sorted entry_sorted (args_sorted1 _) ?_
  unfold Builtin.«sorted»
  refine wpAny_bind (m := checkCount "sorted" 1 1 _) (wpAny_pure ?_)
  refine wpAny_bind (collect_set (A := A.in1) hh ⟨o, ho, hx.1, hd⟩ T.fit T.few T.ris T.led fun s1 vs k1 hz g1 o1 pm => ?_)
  have hvl : vs.length = n := by rw [pm.length_eq, List.length_map, Array.length_toList]; exact hn
  obtain ⟨zs, hV⟩ := strs_of vs fun v hv => by
    obtain ⟨e, he, q⟩ := List.mem_map.mp (pm.mem_iff.mp hv)
    obtain ⟨k, tk, h1, _⟩ := T.row e he
    exact ⟨k, tk, by rw [← q]; exact h1⟩
  have pk : zs.Perm (txL es) := by
    have q := pm.map fun v => txOf (0, v)
    rw [← vals_tx hV, List.map_map] at q
    exact q
  have hzl : zs.length = n := by
    have := hV.length
    rw [List.length_map] at this
    omega
  refine wpAny_bind (wpAny_newList ?_ (by rw [hvl, sizeLine_eq]; omega))
  have hoL : (s1.heap.push (seqObj "list" vs.toArray 0)).get? s1.heap.objs.size = some (seqObj "list" vs.toArray 0) := Heap.get?_push_size _ rfl
  have hS := hV.strs
  refine wpAny_bind (wpAny_holding (wpAny_call_entry slot_list_sort ⟨_, hoL, rfl⟩ entry_list_sort (list_sort_treeK strKind_oneLt hoL hS.keysOf (fun v₁ v₂ rest e => keyKind_strs (by rw [← e]; exact hS)) (by rw [hvl]; exact h64) fun st' hp hs => ?_) (args_list_sort _)))
  obtain ⟨ys, e1, e2, e3⟩ := sorted_out_str hS hp hs
  obtain ⟨c, hc⟩ := sortedHeap_at (vs := vs) (out := (arrOf st').map (·.2)) hoL
  have pn : ys.Perm (txL es) := e2.trans pk
  refine ⟨_, rfl, wpAny_pure ⟨_, rfl, hQ _ s1.heap.objs.size _ c ys (fun b u e => ?_) g1 o1 hz hc (vals_of_strs e1) e3 (pn.nodup_iff.mpr T.nd) (fun k => by rw [pn.mem_iff, T.mem k])⟩⟩
  have q := k1 b u e
  have hlt := Heap.lt_size q
  show (sortedHeap (s1.heap.push (seqObj "list" vs.toArray 0)) s1.heap.objs.size vs ((arrOf st').map (·.2))).get? b = some u
  rw [sortedHeap_old (Nat.ne_of_lt hlt) (by rw [Heap.size_push]; exact Nat.lt_succ_of_lt hlt)]
  exact Heap.get?_push_of_some _ q
end
end LW

/-! LwYh: sorted(set(list of texts)) as data; how mirrors with dicts, texts and sets run. -/
namespace LW
open PySem L2 PySem.Spec PyProof.Rows
def insN (x : Str) : List Str → List Str
  | [] => [x]
  | y :: r => if x = y then y :: r else if leS x y then x :: y :: r else y :: insN x r
def sortN (zs : List Str) : List Str := zs.foldr insN []
theorem mem_insN {x k : Str} : ∀ {l : List Str}, k ∈ insN x l ↔ k = x ∨ k ∈ l
  | [] => by simp [insN]
  | y :: r => by
    unfold insN
    split
    · rename_i h
      subst h
      simp
    · split
      · simp
      · rw [List.mem_cons, mem_insN, List.mem_cons, ← or_assoc, ← or_assoc, or_comm (a := k = y)]
theorem mem_sortN {k : Str} : ∀ {zs : List Str}, k ∈ sortN zs ↔ k ∈ zs
  | [] => by simp [sortN]
  | z :: r => by
    show k ∈ insN z (sortN r) ↔ _
    rw [mem_insN, mem_sortN, List.mem_cons]
theorem pw_insN {x : Str} : ∀ {l : List Str}, l.Pairwise leS ∧ l.Nodup → (insN x l).Pairwise leS ∧ (insN x l).Nodup
  | [], _ => ⟨List.pairwise_singleton _ _, by simp [insN]⟩
  | y :: r, ⟨h, n⟩ => by
    obtain ⟨h1, h2⟩ := List.pairwise_cons.mp h
    obtain ⟨n1, n2⟩ := List.nodup_cons.mp n
    unfold insN
    split
    · exact ⟨h, n⟩
    · rename_i ne
      split
      · rename_i hx
        have nx : x ∉ y :: r := fun z => by
          rcases List.mem_cons.mp z with z | z
          · exact ne z
          · exact ne (leS_anti hx (h1 x z))
        refine ⟨List.pairwise_cons.mpr ⟨fun z hz => ?_, h⟩, List.nodup_cons.mpr ⟨nx, n⟩⟩
        rcases List.mem_cons.mp hz with rfl | hz
        · exact hx
        · exact leS_trans hx (h1 z hz)
      · rename_i hx
        obtain ⟨i1, i2⟩ := pw_insN (x := x) ⟨h2, n2⟩
        refine ⟨List.pairwise_cons.mpr ⟨fun z hz => ?_, i1⟩, List.nodup_cons.mpr ⟨fun z => ?_, i2⟩⟩
        · rcases mem_insN.mp hz with rfl | hz
          · exact (leS_total z y).resolve_left hx
          · exact h1 z hz
        · rcases mem_insN.mp z with z | z
          · exact ne z.symm
          · exact n1 z
theorem pw_sortN : ∀ {zs : List Str}, (sortN zs).Pairwise leS ∧ (sortN zs).Nodup
  | [] => ⟨List.Pairwise.nil, List.nodup_nil⟩
  | z :: r => pw_insN (pw_sortN (zs := r))
theorem sortN_uniq {l zs : List Str} (h : l.Pairwise leS) (n : l.Nodup) (m : ∀ k, k ∈ l ↔ k ∈ zs) : l = sortN zs :=
  ((List.perm_ext_iff_of_nodup n pw_sortN.2).mpr fun k => (m k).trans mem_sortN.symm).eq_of_pairwise (le := leS) (fun a b _ _ h1 h2 => leS_anti h1 h2) h pw_sortN.1
theorem len_insN {x : Str} : ∀ {l : List Str}, (insN x l).length ≤ l.length + 1
  | [] => by simp [insN]
  | y :: r => by
    unfold insN
    split
    · simp
    · split
      · simp
      · have := len_insN (x := x) (l := r)
        simp
        omega
theorem len_sortN : ∀ {zs : List Str}, (sortN zs).length ≤ zs.length
  | [] => by simp [sortN]
  | z :: r => by
    have h1 := len_insN (x := z) (l := sortN r)
    have h2 := len_sortN (zs := r)
    show (insN z (sortN r)).length ≤ _
    rw [List.length_cons]
    omega
def tSN (K : PySem.W.Frag) (ta : TE) : TE := fun σ H Q => ta σ H fun x H1 => ∃ (l : Addr) (zs : List Str), x = .ref l ∧ SqL K H1 l (zs.map V.str) ∧ zs.length < 64 ∧ ∀ p, H1 p = none → Q (.ref p) (upd H1 p (.lst ((sortN zs).map V.str)))
section
variable {X : Cx}
theorem pe_sn {a : Expr} {ta : TE} {p p2 q pos : Pos} (hc : X.calm = true) (hg : Gl X "sorted") (hm : X.mg "sorted" = none) (hg2 : Gl X "set") (hm2 : X.mg "set" = none) (ha : PE X a ta)
    (na : starEach [a] X.env = (false, eval a X.env) :: starEach [] X.env := by rfl) : PE X (.Call (.Name "sorted" p) [.Call (.Name "set" p2) [a] [] q] [] pos) (tSN X.K ta) := by
  refine ⟨fun pins s σ H Q I h => ?_⟩
  refine Call_ (ld_blt I hg hm (u := .builtin "sorted") (by decide +kernel) ?_)
  refine PyProof.Rows.callWith_builtin1 (PyProof.Rows.args_cons ?_ rfl) rfl rfl
  refine Call_ (ld_blt I hg2 hm2 PyProof.Rows.boot_set ?_)
  refine PyProof.Rows.callWith_type1 (PyProof.Rows.args_cons (thn (ha.run pins s σ H _ I h) fun v s1 ⟨x, H1, I1, r1, q1⟩ => PyProof.Rows.args_nil ?_) na) na rfl
  obtain ⟨l, zs, rfl, hq, h64, q1⟩ := q1
  cases r1
  obtain ⟨its, r, pl, hz⟩ := I1.list hq
  refine setT zs (I1.ok.hd hc) pl.isList (by simpa using r) (by unfold scanBound; omega) fun h' tk c hS hc' hk => ?_
  refine PyProof.Rows.args_nil ?_
  have I2 : Inv X pins σ H1 { s1 with heap := h', toks := tk } := I1.kept hk
  refine sortedT hS (I2.ok.hd hc) (by omega) fun s' p out cc ys k g o hp hgt hv hs hnd hmm => ?_
  have e1 : ys = sortN zs := sortN_uniq (sorted_pw ys hs) hnd hmm
  have hlen : (ys.map V.str).length ≤ sizeLine := by
    rw [List.length_map, e1, sizeLine_eq]
    have := len_sortN (zs := zs)
    omega
  have hn : H1 p = none := I2.hok.fresh hp
  have J : Inv X pins σ (upd H1 p (.lst (ys.map V.str))) { s1 with heap := s'.heap, gens := s'.gens, drawn := s'.drawn, toks := s'.toks } :=
    L2.Inv.call (s := { s1 with heap := h', toks := tk }) (ch := []) I2 (Un.laid k hp hn) (I2.hok.laid k hp ⟨hlen, out.toList, cc, hv, hgt⟩) (by rw [g]; exact I2.bare) (fun _ z => nomatch z)
  have e : s' = { s1 with heap := s'.heap, gens := s'.gens, drawn := s'.drawn, toks := s'.toks } := by
    cases s'
    cases s1
    cases o
    rfl
  rw [e]
  refine ⟨.ref p, _, J, rfl, ?_⟩
  rw [e1]
  exact q1 p hn
end
def eSN (fa : SE) : Fx (List D) := fun env st => match fa env st with
  | some (x, s1) => (match lstS s1 x with
    | some zs => if zs.length < 64 then some ((sortN zs).map D.str, s1) else none
    | none => none)
  | none => none
theorem d_sn {mg : Glob} {X : Cx} {a : Expr} {fa : SE} {p p2 q pos : Pos} (hc : X.calm = true) (hm : X.mg "sorted" = none) (hm2 : X.mg "set" = none) (ha : PE X a (tP mg fa)) (hg : Gl X "sorted" := by rfl) (hg2 : Gl X "set" := by rfl)
    (na : starEach [a] X.env = (false, eval a X.env) :: starEach [] X.env := by rfl) (hK : X.K = mg.K := by rfl) : PE X (.Call (.Name "sorted" p) [.Call (.Name "set" p2) [a] [] q] [] pos) (tL mg (eSN fa)) :=
  pe_weak (pe_sn hc hg hm hg2 hm2 ha na) fun σ H Q ⟨E, N, c, env, st, d, st', R, z, k⟩ => by
    unfold eSN at z
    split at z
    · rename_i x s1 z1
      split at z
      · rename_i zs hn
        split at z
        · rename_i hl
          cases z
          refine ⟨E, N, c, env, st, x, _, R, z1, fun v N1 c1 H1 x1 W1 r1 => ?_⟩
          obtain ⟨l, rfl, hq⟩ := RepT.strs W1 r1 hn
          refine ⟨l, zs, rfl, hK ▸ hq, hl, fun p hp => ?_⟩
          exact k _ _ c1 _ (x1.trans (Ex.laidN W1 hp) R.wd) (W1.laidN hp) (back_N R.wd x1 W1 (RN.laid W1 hp (RepL.strs _)))
        · cases z
      · cases z
    · cases z
/-! ### how mirrors run -/
section
variable {env : Env} {st : Sto} {Q : D → Sto → Prop} {QL : List D → Sto → Prop} {QK : DK → Sto → Prop} {QS : Out → Sto → Prop} {QI : Src → Sto → Prop} {i : Nat} {fe fj fk : SE} {f : Fx DK} {fs : SA}
theorem z_ins (h : Ok (fj env st) fun j s1 => AsI j fun j => Ok (fe env s1) fun d s2 => ∃ xs, env[i]? = some (.own xs) ∧ (xs.length < 1000000 ∧ 0 ≤ j ∧ j < 2 ^ 62) ∧ QS (.nx (env.set i (.own (xs.take j.toNat ++ [d] ++ xs.drop j.toNat)))) s2) : Ok (sIns i fj fe env st) QS := by
  obtain ⟨o, s1, e1, h⟩ := h
  obtain ⟨j, rfl, d, s2, e2, xs, e3, l, q⟩ := h.of
  exact ⟨_, s2, by unfold sIns; rw [e1]; dsimp only; rw [e2]; dsimp only; rw [e3]; dsimp only; rw [if_pos l], q⟩
theorem z_ownD (h : Ok (f env st) fun d s => QS (.nx (env.set i (.ownD d.1 d.2))) s) : Ok (sOwnD i f env st) QS := by
  obtain ⟨d, s1, e1, h⟩ := h
  exact ⟨_, s1, by unfold sOwnD; rw [e1], h⟩
theorem z_D (h : Ok (f env st) fun d s => Q (.dic d.1 d.2) s) : Ok (eD f env st) Q := by
  obtain ⟨d, s1, e1, h⟩ := h
  exact ⟨_, s1, by unfold eD; rw [e1]; rfl, h⟩
theorem z_d0 (h : QK ([], []) st) : Ok (lD0 env st) QK := ⟨_, st, rfl, h⟩
theorem z_sgn (h : Ok (fe env st) fun d s => ∃ x, d = .str x ∧ QI (signsD x, noChk) s) : Ok (iSgn fe env st) QI := by
  obtain ⟨d, s1, e1, x, rfl, q⟩ := h
  exact ⟨_, s1, by unfold iSgn; rw [e1], q⟩
theorem z_ky {ks : List Key} {vs : List D} (e : env[i]? = some (.val (.dic ks vs))) (h : QI (ks.map keyV, noChk) st) : Ok (iKy i env st) QI := ⟨_, st, by unfold iKy; rw [e], h⟩
theorem z_sn (h : Ok (fe env st) fun x s => ∃ zs, lstS s x = some zs ∧ zs.length < 64 ∧ QL ((sortN zs).map D.str) s) : Ok (eSN fe env st) QL := by
  obtain ⟨x, s1, e1, zs, e2, l, q⟩ := h
  exact ⟨_, s1, by unfold eSN; rw [e1]; dsimp only; rw [e2]; dsimp only; rw [if_pos l], q⟩
end
end LW

/-! LwZa: == and != of dicts whose values are instances with an own __eq__ (the heap grows meanwhile). -/
namespace PySem.W
open PySem PySem.Calls PyProof.Rows PyProof.V PySem.Spec
section
variable {prog : Program} {w : World} {K : Type} [DecidableEq K] {knd : KeyKind prog w K} {A : Around} {E : Value → Shared → Prop} {s : Shared}
end
end PySem.W

/-! LwZb: == and != of dicts of instances with an own __eq__, as data. -/
namespace LW
open PySem L2 PyProof.Rows
/-! ### mirrors that leave the store -/
/-! ### two equal items -/
section
variable {mg : Glob} {X : Cx} {pins : List (Addr × Obj)} {σ : L2.St} {H : Hp} {s : Shared} {N : Prot} {c : List Addr} {st : Sto} {k : Nat} {C : Addr} {cs : List Str} {g : FM} {cn : Str} {E : Value → Shared → Prop}
end
section
variable {X : Cx} {k : Nat} {C : Addr} {cs : List Str} {g : FM} {cn : Str} {a b : Expr} {pos : Pos} {fa fb : SE}
end
end LW

/-! LwZc: for over the keys of a dict; a, b = {}, {}; list * int. -/
namespace LW
open PySem L2 PyProof.Rows
section
variable {mg : Glob} {N N' : Prot} {c c' : List Addr} {H H' : Hp} {st st' : Sto} {E : En} {env env' : Env} {σ σ' : L2.St} {a : Addr} {od : Obj} {kvs : List (Key × V)}
/-- the entry as seen while the dict at a is locked -/
def En.lk (E : En) (a : Addr) (o : HO) : En := ⟨upd E.H0 a o, E.N0, E.c0, E.self⟩
/-- what the entry's heap says of a dict that stands here -/
theorem Rel.at0 (R : Rel mg E N c env st σ H) (h : H a = some (.dK kvs)) (n : ¬ N a) {o : HO} (e : E.H0 a = some o) : o = .dK kvs := by
  have := R.base a o e fun z => n (R.wd.cn a z)
  rw [h] at this
  cases this
  rfl
end
section
variable {mg : Glob} {X : Cx} {tg : Expr} {body : List Stmt} {pos : Pos} {fb : SS} {asg : D → Env → Option Env} {g : TG} {is : List Nat}
end
/-! ### a, b = two new things -/
section
variable {mg : Glob} {X : Cx} {e a b : Expr} {pos : Pos} {fe : SE} {fl : Fx (List D)} {fd : Fx DK} {fa fb : Fx Sl}
end
/-! ### list * int -/
section
variable {mg : Glob} {N : Prot} {c : List Addr} {H : Hp} {X : Cx} {a b : Expr} {pos : Pos} {fa fb : SE}
theorem RepL.rep {vs : List V} {ds : List D} (r : RepL mg N c H vs ds) : ∀ n : Nat, RepL mg N c H (List.replicate n vs).flatten (List.replicate n ds).flatten
  | 0 => .nil
  | n + 1 => by
    rw [List.replicate_succ, List.replicate_succ, List.flatten_cons, List.flatten_cons]
    exact r.append (RepL.rep r n)
end
end LW

/-! LwZd: {k: v for .. in .. if ..}. -/
namespace LW
open PySem L2 PyProof.Rows
section
variable {mg : Glob}
end
def dcM (chk : Sto → Bool) (asg : D → Env → Option Env) (cond : SB) (fk fv : SE) (env0 : Env) : List D → DK → Sto → Option (DK × Sto)
  | [], acc, st => if chk st = true then some (acc, st) else none
  | d :: ds, acc, st => if chk st = true then (match asg d env0 with
    | none => none
    | some e1 => match cond e1 st with
      | none => none
      | some (false, s1) => dcM chk asg cond fk fv env0 ds acc s1
      | some (true, s1) => match fk e1 s1 with
        | none => none
        | some (y, s2) => match fv e1 s2 with
          | none => none
          | some (z, s3) => match keyD y with
            | none => none
            | some k => dcM chk asg cond fk fv env0 ds (putKD acc k z) s3) else none
def dComp (fi : Fx Src) (asg : D → Env → Option Env) (cond : SB) (fk fv : SE) (vs : List Nat) : Fx DK := fun env st => match fi env st with
  | none => none
  | some (xs, s1) => if xs.1.length ≤ 1000000 then dcM xs.2 asg cond fk fv (wipeE env vs) xs.1 ([], []) s1 else none
section
variable {mg : Glob} {fi : Fx Src} {asg : D → Env → Option Env} {cond : SB} {fk fv : SE} {g : TG} {is vs : List Nat}
variable {X : Cx} {kx vx tg iter : Expr} {ifs : List Expr} {scope : Scope} {own : List (Str × Nat)} {pos : Pos}
end
/-! ### how mirrors run -/
section
variable {chk : Sto → Bool} {asg : D → Env → Option Env} {cond : SB} {fk fv : SE} {env0 e1 : Env} {st : Sto} {fi : Fx Src} {vs : List Nat} {QK : DK → Sto → Prop}
theorem z_dComp (h : Ok (fi env0 st) fun xs s1 => xs.1.length ≤ 1000000 ∧ Ok (dcM xs.2 asg cond fk fv (wipeE env0 vs) xs.1 ([], []) s1) QK) : Ok (dComp fi asg cond fk fv vs env0 st) QK := by
  obtain ⟨x, s1, e1, hl, h⟩ := h
  obtain ⟨a, s, e, q⟩ := h
  exact ⟨a, s, by unfold dComp; rw [e1]; dsimp only; rw [if_pos hl, e], q⟩
end
end LW

/-! LwZe: [e for .. in .. if .. for .. in .. if ..]. -/
namespace LW
open PySem L2 PyProof.Rows
/-- a target names data only -/
def AsgOk (asg : D → Env → Option Env) (is : List Nat) : Prop := ∀ d env e1, asg d env = some e1 → ∀ (j : Nat) s, e1[j]? = some s → s.isOwn = true → env[j]? = some s ∧ j ∉ is
theorem asg_name (i : Nat) : AsgOk (asgN i) [i] := fun d env e1 h j s e ho => by
  cases h
  rcases get_set e with ⟨rfl, rfl⟩ | ⟨ne, e⟩
  · cases ho
  · exact ⟨e, fun z => ne (List.mem_singleton.mp z).symm⟩
theorem wipe_at {σ : L2.St} {j : Nat} : ∀ {vs : List Nat}, j ∉ vs → (L2.wipe σ vs)[j]? = σ[j]?
  | [], _ => rfl
  | v :: vs, h => by
    unfold L2.wipe
    rw [List.getElem?_set_ne (fun z => h (by rw [z]; exact List.mem_cons_self)), wipe_at fun z => h (List.mem_cons_of_mem _ z)]
theorem wipeE_own {env : Env} {j : Nat} {s : Sl} : ∀ {vs : List Nat}, (wipeE env vs)[j]? = some s → s.isOwn = true → env[j]? = some s ∧ j ∉ vs
  | [], h, _ => ⟨h, fun z => by cases z⟩
  | v :: vs, h, ho => by
    unfold wipeE at h
    rcases get_set h with ⟨rfl, rfl⟩ | ⟨ne, h⟩
    · cases ho
    · obtain ⟨a, b⟩ := wipeE_own h ho
      exact ⟨a, fun z => (List.mem_cons.mp z).elim (fun q => ne q.symm) b⟩
def comp2M (chk : Sto → Bool) (asg : D → Env → Option Env) (cond : SB) (fi2 : Fx Src) (asg2 : D → Env → Option Env) (cond2 : SB) (elt : SE) (vs2 : List Nat) (env0 : Env) : List D → Sto → Option (List D × Sto)
  | [], st => if chk st = true then some ([], st) else none
  | d :: ds, st => if chk st = true then (match asg d env0 with
    | none => none
    | some e1 => match cond e1 st with
      | none => none
      | some (false, s1) => comp2M chk asg cond fi2 asg2 cond2 elt vs2 env0 ds s1
      | some (true, s1) => match fi2 e1 s1 with
        | none => none
        | some (src, s2) => match compM src.2 asg2 cond2 elt (wipeE e1 vs2) src.1 s2 with
          | none => none
          | some (ys, s3) => match comp2M chk asg cond fi2 asg2 cond2 elt vs2 env0 ds s3 with
            | none => none
            | some (zs, s4) => some (ys ++ zs, s4)) else none
def lComp2 (fi : Fx Src) (asg : D → Env → Option Env) (cond : SB) (fi2 : Fx Src) (asg2 : D → Env → Option Env) (cond2 : SB) (elt : SE) (vs vs2 : List Nat) : Fx (List D) := fun env st => match fi env st with
  | none => none
  | some (xs, s1) => match comp2M xs.2 asg cond fi2 asg2 cond2 elt vs2 (wipeE env vs) xs.1 s1 with
    | none => none
    | some (ys, s2) => if ys.length ≤ 1000000 then some (ys, s2) else none
section
variable {mg : Glob} {fi fi2 : Fx Src} {asg asg2 : D → Env → Option Env} {cond cond2 : SB} {elt : SE} {g g2 : TG} {is is2 vs vs2 : List Nat}
theorem r_lc2 (hg : GOk mg g asg is) (hv : ∀ i ∈ is, i ∈ vs) (hao : AsgOk asg is) (hg2 : GOk mg g2 asg2 is2) (hv2 : ∀ i ∈ is2, i ∈ vs2) {σ : L2.St} {H : Hp} {Q : VK} (h : tL mg (lComp2 fi asg cond fi2 asg2 cond2 elt vs vs2) σ H Q) :
    tLc2 (tI mg fi) g (tT mg cond) (tI mg fi2) g2 (tT mg cond2) (tE mg elt) vs vs2 σ H Q := by
  obtain ⟨E, N, c, env, st, d, st', R, q, k⟩ := h
  unfold lComp2 at q
  split at q
  · cases q
  · rename_i src s1 q1
    obtain ⟨xs, chk⟩ := src
    split at q
    · cases q
    · rename_i ys0 st'' qc0
      split at q
      · rename_i hl
        cases q
        refine ⟨E, N, c, env, st, (xs, chk), s1, R, q1, fun J N1 c1 H1 x1 W1 il => fun p hp => ?_⟩
        have R1 := R.ex x1 W1
        have x2 := Ex.laidN (o := .lst []) W1 hp
        have W2 := W1.laidN (o := .lst []) hp
        have h0 : E.H0 p = none := R1.fresh0 hp
        have hpH : H p = none := x1.free R.wd W1 hp
        have nw := (R1.wipe vs).notOwn hp
        -- what stands at each turn
        let St : Hp → Prot → List Addr → Sto → List D → List V → Prop := fun H' N' c' st2 accD accV => Ex N c H N' c' H' ∧ Sx N1 c1 H1 N' c' H' ∧ Rel mg E N' c' (wipeE env vs) st2 (L2.wipe σ vs) H' ∧ N' p ∧ p ∉ c' ∧ H' p = some (.lst accV) ∧ RepL mg N' c' H' accV accD
        refine ⟨fun i m H' => m = xs.length - i ∧ i ≤ xs.length ∧ ∃ N' c' st2 accD accV ys, St H' N' c' st2 accD accV ∧ comp2M chk asg cond fi2 asg2 cond2 elt vs2 (wipeE env vs) (xs.drop i) st2 = some (ys, st') ∧ accD ++ ys = d,
          ⟨xs.length, by omega, Nat.zero_le _, _, c1, s1, [], [], d, ⟨x1.trans x2 R.wd, x2.sx W1 W2, (R1.ex x2 W2).wipe vs, .inr rfl, W1.cnone hp, upd_same, .nil⟩, by rw [List.drop_zero]; exact qc0, rfl⟩, ?_⟩
        rintro i m H' ⟨rfl, hi, N', c', st2, accD, accV, ys, ⟨ex, sx, R', np, nc, hpv, ra⟩, ql, ed⟩
        by_cases hlt : i < xs.length
        · have ed0 : xs.drop i = xs[i] :: xs.drop (i + 1) := List.drop_eq_getElem_cons hlt
          rw [ed0] at ql
          unfold comp2M at ql
          split at ql
          · rename_i hck
            refine .inr ⟨il.go i N' c' H' st2 hlt sx R'.wd hck, fun H3 => ∃ N' c' st2 accD accV ys, St H3 N' c' st2 accD accV ∧ comp2M chk asg cond fi2 asg2 cond2 elt vs2 (wipeE env vs) (xs.drop (i + 1)) st2 = some (ys, st') ∧ accD ++ ys = d,
              fun H3 z => ⟨xs.length - (i + 1), by omega, rfl, hlt, z⟩, fun x H2 y => ?_⟩
            obtain ⟨d0, hd0, x3, W3, r3⟩ := il.yld i N' c' H' st2 x H2 hlt sx R'.wd hck y
            have ed2 : xs[i] = d0 := by
              obtain ⟨_, e⟩ := List.getElem?_eq_some_iff.mp hd0
              exact e
            rw [ed2] at ql
            split at ql
            · cases ql
            · rename_i e1 ha
              have R3 := R'.ex x3 W3
              refine hg E N' c' _ e1 st2 _ H2 x d0 _ R3 r3 ha fun σ4 R4 df => ⟨by rw [df vs hv]; exact wipe_idem fun _ z => z, ?_⟩
              split at ql
              · cases ql
              · rename_i sA qc
                refine ⟨E, N', c', e1, st2, false, sA, R4, qc, fun N5 c5 H5 x5 W5 => iteF ?_⟩
                have x35 := x3.trans x5 R'.wd
                exact ⟨N5, c5, sA, accD, accV, ys, ⟨ex.trans x35 R.wd, sx.trans (x35.sx R'.wd W5), R3.ex x5 W5, x5.mono p np, x35.nc R'.wd hpv nc, x35.keep p _ hpv nc, ra.tr (x35.tr R'.wd)⟩, ql, ed⟩
              · rename_i sA qc
                split at ql
                · cases ql
                · rename_i src2 sB q2
                  obtain ⟨xs2, chk2⟩ := src2
                  split at ql
                  · cases ql
                  · rename_i ysI sC qI
                    split at ql
                    · cases ql
                    · rename_i zs s4 qR
                      cases ql
                      refine ⟨E, N', c', e1, st2, true, sA, R4, qc, fun N5 c5 H5 x5 W5 => iteT ?_⟩
                      have R5 := R4.ex x5 W5
                      refine ⟨E, N5, c5, e1, sA, (xs2, chk2), sB, R5, q2, fun J1 N6 c6 H6 x6 W6 il2 => ?_⟩
                      have x36 := (x3.trans x5 R'.wd).trans x6 R'.wd
                      have R6 := R5.ex x6 W6
                      have hp6 := x36.keep p _ hpv nc
                      have nc6 := x36.nc R'.wd hpv nc
                      have np6 := x36.mono p np
                      have nw2 : ∀ (j : Nat) s, (wipeE e1 vs2)[j]? = some s → s.isOwn = true → (L2.wipe σ4 vs2)[j]? ≠ some (some (.ref p)) := fun j s e ho z => by
                        obtain ⟨a1, a2⟩ := wipeE_own e ho
                        rw [wipe_at a2] at z
                        obtain ⟨b1, b2⟩ := hao d0 _ e1 ha j s a1 ho
                        have dd := congrArg (fun (s : L2.St) => s[j]?) (df is fun _ z => z)
                        have dd : (L2.wipe σ4 is)[j]? = (L2.wipe (L2.wipe σ vs) is)[j]? := dd
                        rw [wipe_at b2, wipe_at b2] at dd
                        exact nw j s b1 ho (by rw [← dd]; exact z)
                      let St2 : Hp → Prot → List Addr → Sto → List D → List V → Prop := fun H' N' c' st2 accD accV => St H' N' c' st2 accD accV ∧ Sx N6 c6 H6 N' c' H' ∧ Rel mg E N' c' (wipeE e1 vs2) st2 (L2.wipe σ4 vs2) H'
                      refine ⟨fun j m H' => m = xs2.length - j ∧ j ≤ xs2.length ∧ ∃ N' c' st2 accD accV ys2, St2 H' N' c' st2 accD accV ∧ compM chk2 asg2 cond2 elt (wipeE e1 vs2) (xs2.drop j) st2 = some (ys2, sC) ∧ accD ++ (ys2 ++ zs) = d,
                        ⟨xs2.length, by omega, Nat.zero_le _, N6, c6, sB, accD, accV, ysI, ⟨⟨ex.trans x36 R.wd, sx.trans (x36.sx R'.wd W6), R'.ex x36 W6, np6, nc6, hp6, ra.tr (x36.tr R'.wd)⟩, Sx.refl, R6.wipe vs2⟩, by rw [List.drop_zero]; exact qI, ed⟩, ?_⟩
                      rintro j m2 H7 ⟨rfl, hj, N7, c7, s7, aD, aV, ys2, ⟨⟨ex7, sx7, Ro, np7, nc7, hp7, ra7⟩, sx67, Ri⟩, qj, ed7⟩
                      by_cases hlt2 : j < xs2.length
                      · have ej0 : xs2.drop j = xs2[j] :: xs2.drop (j + 1) := List.drop_eq_getElem_cons hlt2
                        rw [ej0] at qj
                        unfold compM at qj
                        split at qj
                        · rename_i hck2
                          refine .inr ⟨il2.go j N7 c7 H7 s7 hlt2 sx67 Ri.wd hck2, fun H3 => ∃ N' c' st2 accD accV ys2, St2 H3 N' c' st2 accD accV ∧ compM chk2 asg2 cond2 elt (wipeE e1 vs2) (xs2.drop (j + 1)) st2 = some (ys2, sC) ∧ accD ++ (ys2 ++ zs) = d,
                            fun H3 z => ⟨xs2.length - (j + 1), by omega, rfl, hlt2, z⟩, fun x' H8 y' => ?_⟩
                          obtain ⟨d8, hd8, x8, W8, r8⟩ := il2.yld j N7 c7 H7 s7 x' H8 hlt2 sx67 Ri.wd hck2 y'
                          have ed8 : xs2[j] = d8 := by
                            obtain ⟨_, e⟩ := List.getElem?_eq_some_iff.mp hd8
                            exact e
                          rw [ed8] at qj
                          split at qj
                          · cases qj
                          · rename_i e8 ha8
                            have R8 := Ri.ex x8 W8
                            refine hg2 E N7 c7 _ e8 s7 _ H8 x' d8 _ R8 r8 ha8 fun σ9 R9 df9 => ⟨by rw [df9 vs2 hv2]; exact wipe_idem fun _ z => z, ?_⟩
                            split at qj
                            · cases qj
                            · rename_i sD qd
                              refine ⟨E, N7, c7, e8, s7, false, sD, R9, qd, fun N9 c9 H9 x9 W9 => iteF ?_⟩
                              have x89 := x8.trans x9 Ri.wd
                              exact ⟨N9, c9, sD, aD, aV, ys2, ⟨⟨ex7.trans x89 R.wd, sx7.trans (x89.sx Ro.wd W9), Ro.ex x89 W9, x89.mono p np7, x89.nc Ro.wd hp7 nc7, x89.keep p _ hp7 nc7, ra7.tr (x89.tr Ro.wd)⟩, sx67.trans (x89.sx Ri.wd W9), Ri.ex x89 W9⟩, qj, ed7⟩
                            · rename_i sD qd
                              split at qj
                              · cases qj
                              · rename_i y1 sE qe
                                split at qj
                                · cases qj
                                · rename_i ys1 s5 qr
                                  cases qj
                                  refine ⟨E, N7, c7, e8, s7, true, sD, R9, qd, fun N9 c9 H9 x9 W9 => iteT ?_⟩
                                  refine ⟨E, N9, c9, e8, sD, y1, sE, R9.ex x9 W9, qe, fun w Na ca Ha xa Wa ra' => ?_⟩
                                  have x8a := (x8.trans x9 Ri.wd).trans xa Ri.wd
                                  have hpa := x8a.keep p _ hp7 nc7
                                  have nca := x8a.nc Ro.wd hp7 nc7
                                  have npa := x8a.mono p np7
                                  have raa := ra7.tr (x8a.tr Ro.wd)
                                  have ln := raa.length
                                  have le : aD.length < d.length := by
                                    have := congrArg List.length ed7
                                    rw [List.length_append, List.cons_append, List.length_cons] at this
                                    omega
                                  refine ⟨aV, hpa, sz7 (by omega), ?_⟩
                                  have Roa := Ro.ex x8a Wa
                                  have Ria := Ri.ex x8a Wa
                                  obtain ⟨Rg, sg⟩ := Roa.grow (us := aV ++ [w]) npa nca h0 ⟨_, hpa, by simp⟩ nw
                                  obtain ⟨Rg2, _⟩ := Ria.grow (us := aV ++ [w]) npa nca h0 ⟨_, hpa, by simp⟩ nw2
                                  have exT := ex7.trans x8a R.wd
                                  refine ⟨Na, ca, sE, aD ++ [y1], aV ++ [w], ys1, ⟨⟨⟨fun a o e n => ?_, exT.new, exT.mono, exT.pre, exT.newc⟩, (sx7.trans (x8a.sx Ro.wd Wa)).trans sg, Rg, npa, nca, upd_same, (raa.append (.cons ra' .nil)).tr sg.tr⟩, (sx67.trans (x8a.sx Ri.wd Wa)).trans sg, Rg2⟩, qr, by rw [List.append_assoc]; exact ed7⟩
                                  rw [upd_ne (ne_of_none e hpH)]
                                  exact exT.keep a o e n
                        · cases qj
                      · have e : j = xs2.length := by omega
                        subst e
                        rw [List.drop_length] at qj
                        unfold compM at qj
                        split at qj
                        · rename_i hck2
                          cases qj
                          exact .inl ⟨il2.stop N7 c7 H7 _ sx67 Ri.wd hck2, N7, c7, _, aD, aV, zs, ⟨ex7, sx7, Ro, np7, nc7, hp7, ra7⟩, qR, ed7⟩
                        · cases qj
          · cases ql
        · have e : i = xs.length := by omega
          subst e
          rw [List.drop_length] at ql
          unfold comp2M at ql
          split at ql
          · rename_i hck
            cases ql
            rw [List.append_nil] at ed
            subst ed
            exact .inl ⟨il.stop N' c' H' _ sx R'.wd hck, k _ N' c' H' ex R'.wd ⟨p, accV, rfl, hpH, np, nc, hpv, ra⟩⟩
          · cases ql
      · cases q
variable {X : Cx} {eltE tg iter tg1 iter1 : Expr} {ifs ifs1 : List Expr} {scope : Scope} {own : List (Str × Nat)} {pos : Pos}
theorem d_lc2 (hc : X.calm = true) (hN : X.N.Nodup) (hi : PI X tg iter (tI mg fi)) (ok : BlkOk X.N X.env.scope scope own)
    (hgg : ∀ (s : Shared) (H : Hp) (C : Addr) (cl : List (Str × Addr)) (fp : List Addr), PG (X.blk s H scope (compEnvC scope cl C X.env) fp) tg g) (hg : GOk mg g asg is) (hao : AsgOk asg is) (hv : ∀ i ∈ is, i ∈ own.map (·.2))
    (ht : ∀ (s : Shared) (H : Hp) (C : Addr) (cl : List (Str × Addr)) (fp : List Addr), PTs (X.blk s H scope (compEnvC scope cl C X.env) fp) ifs (tT mg cond))
    (hi1 : ∀ (s : Shared) (H : Hp) (C : Addr) (cl : List (Str × Addr)) (fp : List Addr), PI (X.blk s H scope (compEnvC scope cl C X.env) fp) tg1 iter1 (tI mg fi2))
    (hgg1 : ∀ (s : Shared) (H : Hp) (C : Addr) (cl : List (Str × Addr)) (fp : List Addr), PG (X.blk s H scope (compEnvC scope cl C X.env) fp) tg1 g2) (hg1 : GOk mg g2 asg2 is2) (hv1 : ∀ i ∈ is2, i ∈ vs2) (hvv : ∀ i ∈ vs2, i ∈ own.map (·.2))
    (ht1 : ∀ (s : Shared) (H : Hp) (C : Addr) (cl : List (Str × Addr)) (fp : List Addr), PTs (X.blk s H scope (compEnvC scope cl C X.env) fp) ifs1 (tT mg cond2))
    (he : ∀ (s : Shared) (H : Hp) (C : Addr) (cl : List (Str × Addr)) (fp : List Addr), PE (X.blk s H scope (compEnvC scope cl C X.env) fp) eltE (tE mg elt)) (hs : ∀ x, foldedSetIterable iter X.env x = pure x := by intro _; rfl) (hs1 : ∀ env x, foldedSetIterable iter1 env x = pure x := by intro _ _; rfl) :
    PE X (.ListComp eltE [⟨tg, iter, ifs, 0⟩, ⟨tg1, iter1, ifs1, 0⟩] scope pos) (tL mg (lComp2 fi asg cond fi2 asg2 cond2 elt (own.map (·.2)) vs2)) :=
  pe_weak (pe_lc2 hc hN hi ok hvv hgg ht hi1 hgg1 ht1 he hs hs1) fun _ _ _ h => r_lc2 hg hv hao hg1 hv1 h
end
end LW

/-! LwEa: exception classes of the form: def __init__(self, value=None): super().__init__(); self.value = value (turned from a worked proof with an own error). -/
namespace PySem
namespace LeafX
open PySem.W PySem.Calls PyProof.Rows PySem.HandSPX
/-! ### the text of __init__ -/
/-- what the written part says of the class at C and of its __init__ at fI -/
structure LeafTxt (P : Program) (K : Frag) (C fI : Addr) (qual : Str) : Prop where
  cls : ∃ nm q N bs bm sn sub ab col dd k0 k1 k2 k3 k5, K.lookup C = some (excClassObj nm q C N bs bm true sn sub ab col dd k0 k1 k2 k3 k5 "ValueError.__new__") ∧ refsVE bm = true ∧ alongIn K "__init__" bm = some (some (.builtin "ValueError.__init__"))
  sa : findIn K (.ref C) "__setattr__" = some (some (.builtin "object.__setattr__"))
  noN : findIn K (.ref C) "value" = some none
  iC : findIn K (.ref C) "__init__" = some (some (.ref fI))
  tC : typeIn K (.ref fI) = some (.type "function")
  exC : subIn K (.ref C) (.type "BaseException") = some true
  mro : mroIn K C (.ref C) = some true
  vaC : subIn K (.ref C) (.type "ValueError") = some true
  tyC : typeIn K (.ref C) = some (.type "type")
  opq : nsIn K cStatics "thirdparty.any" = some none
  fn : ∃ (oc T : Value) (od : Option Addr) (kV doc pm ct : Value) (an : Option Addr) (osl : Array (Option Value)) (p : Ps) (cc cda : Addr) (oT : Addr) (ot : Obj) (it : Value) (nt : Nat) (vs : Array Value) (file : Str) (tf : Tok)
      (ccl cl : Value) (cdd cld : Option Addr) (ccs csl : Array (Option Value)),
    K.lookup fI = some ⟨oc, od, .func (fnX "__init__" qual (iA p) (iB p) iS [("__class__", cc)] (.ref oT) kV doc pm an (.ref cda) ct), osl⟩ ∧ codeIn K (.ref cda) qual = true ∧
    K.lookup oT = some ot ∧ ot.data = .seq #[it] nt ∧ it = .none ∧
    K.lookup cda = some ⟨ccl, cdd, .fields vs, ccs⟩ ∧ vs[2]? = some (.str file tf) ∧ ((P.main.file : Str) == file) = true ∧
    K.lookup cc = some ⟨cl, cld, .cell (some (.ref C)), csl⟩ ∧ (p.a3.endLine == p.a4.line) = true
  top : (P.main.scope.names.lookup ("super" : Str)).isSome = false
/-- what __init__ leaves of a fresh exception at x -/
structure InitEnd (h h' : Heap) (x C dx t1 : Addr) (v : Value) : Prop where
  keep : ∀ b o, b ≠ x → h.get? b = some o → h'.get? b = some o
  obj : h'.get? x = some { cls := .ref C, dict := some dx, data := .fields #[.ref t1, .none, .none, .none, .bool false, .none] }
  dbig : h.objs.size ≤ dx
  dne : dx ≠ x
  ns : h'.Ns1 dx (fun y => if y = "value" then some v else none)
section
variable {prog : Program} {w : World} {A : Around} {E : Value → Shared → Prop} {R : Result → Shared → Prop} {s : Shared} {K : Frag} {mg mb : Str → Option Value} {C fI : Addr} {qual : Str}
/-- a made one -/
structure OwnMade (h h' : Heap) (e C d : Addr) (v : Value) : Prop where
  keep : ∀ b o, h.get? b = some o → h'.get? b = some o
  new : h.objs.size ≤ e
  obj : ∃ oe vs, h'.get? e = some oe ∧ oe.cls = .ref C ∧ oe.dict = some d ∧ oe.data = .fields vs ∧ vs[1]? = some .none
  dbig : h.objs.size ≤ d
  dne : d ≠ e
  ns : h'.Ns1 d (fun y => if y = "value" then some v else none)
end
end LeafX
end PySem

/-! LwEb: several except clauses, some with a name; an own error is raised. (The first proof is turned from the rules for clauses without a name and for one clause with a name.) -/
namespace L2
open PySem PySem.Spec PyProof.Rows
inductive HdsN (X : Cx) : List ExceptHandler → List (Value × Option Nat × (Addr → Value → Option Addr → TS)) → Prop
  | nil : HdsN X [] []
  | cons {x : Str} {c : Value} {ts : Addr → Value → Option Addr → TS} {b₀ : Stmt} {suite : List Stmt} {np pos' : Pos} {hds : List ExceptHandler} {l : List (Value × Option Nat × (Addr → Value → Option Addr → TS))} (hc : Names X x c)
      (hsu : ∀ (a : Addr) (oe : Obj) (cls : Value) (d : Option Addr) (pn : List (Addr × Obj)), Zc cls d oe → (∃ vs, oe.data = .fields vs) → PSs (X.suite a ((a, oe) :: pn)) (b₀ :: suite) (ts a cls d)) (r : HdsN X hds l) :
      HdsN X (.ExceptHandler (some (.Name x np)) none (b₀ :: suite) pos' :: hds) ((c, none, ts) :: l)
  | consAs {x n : Str} {i : Nat} {c : Value} {ts : Addr → Value → Option Addr → TS} {b₀ : Stmt} {suite : List Stmt} {np pos' : Pos} {hds : List ExceptHandler} {l : List (Value × Option Nat × (Addr → Value → Option Addr → TS))} (hi : X.N[i]? = some n) (hln : X.env.kindOf n = some .local) (hc : Names X x c)
      (hsu : ∀ (a : Addr) (oe : Obj) (cls : Value) (d : Option Addr) (pn : List (Addr × Obj)), Zc cls d oe → (∃ vs, oe.data = .fields vs) → PSs (X.suite a ((a, oe) :: pn)) (b₀ :: suite) (ts a cls d)) (r : HdsN X hds l) :
      HdsN X (.ExceptHandler (some (.Name x np)) (some n) (b₀ :: suite) pos' :: hds) ((c, some i, ts) :: l)
section
variable {X : Cx} {body : List Stmt} {h₀ : ExceptHandler} {hds : List ExceptHandler} {l : List (Value × Option Nat × (Addr → Value → Option Addr → TS))} {pos : Pos} {tb : WX → TS} {Wout : WX}
end
section
variable {X : Cx} {C fI : Addr} {qual x : Str}
end
end L2

/-! LwEc: statements and expressions that may raise, by plain functions; defs that may raise. -/
namespace LW
open PySem L2 PyProof.Rows

/-- an exception of the class cn whose value is d -/
def XcL (mg : Glob) (N : Prot) (c : List Addr) (H : Hp) (cls : Value) (dd : Option Addr) (cn : Str) (d : D) : Prop :=
  ∃ C da v, cls = .ref C ∧ dd = some da ∧ mg.mg cn = some (.ref C) ∧ H da = some (.xd [(("value" : Str), v)]) ∧ ¬ N da ∧ Rep mg N c H v d
/-- what stands for the value of an exception of a class without an own __init__ -/
abbrev bareD : D := .ty "bare"
def isBare : D → Bool
  | .ty _ => true
  | _ => false
/-- an exception of the class cn: with a value, or of a class without an own __init__ -/
def XcP (mg : Glob) (N : Prot) (c : List Addr) (H : Hp) (cls : Value) (dd : Option Addr) (cn : Str) (d : D) : Prop :=
  XcL mg N c H cls dd cn d ∨ ∃ C, cls = .ref C ∧ dd = none ∧ mg.mg cn = some (.ref C) ∧ d = bareD
theorem XcP.at {mg : Glob} {N : Prot} {c : List Addr} {H : Hp} {cls : Value} {dd : Option Addr} {cn : Str} {d : D} (z : XcP mg N c H cls dd cn d) : ∃ C, cls = .ref C ∧ mg.mg cn = some (.ref C) := by
  rcases z with ⟨C, da, v, e1, e2, e3, e4, e5, e6⟩ | ⟨C, e1, e2, e3, e4⟩
  · exact ⟨C, e1, e3⟩
  · exact ⟨C, e1, e3⟩
inductive OutX where
  | o (o : Out) | ex (cn : Str) (d : D) (env : Env)
inductive RX where
  | ok (d : D) | ex (cn : Str) (d : D)
abbrev SX := Env → Sto → Option (OutX × Sto)
abbrev EX := Env → Sto → Option (RX × Sto)
abbrev FX := List D → Sto → Option (RX × Sto)
def PostX (mg : Glob) (W : WX) (E : En) (N : Prot) (c : List Addr) (H : Hp) (De : Ends) (o : OutX) (st' : Sto) : Prop := match o with
  | .o o => PostS mg E N c H De o st'
  | .ex cn d env' => ∀ N' c' σ' H' cls dd, Sx N c H N' c' H' → Rel mg E N' c' env' st' σ' H' → XcP mg N' c' H' cls dd cn d → W cls dd σ' H'
def PostE (mg : Glob) (W : WX) (σ : L2.St) (N : Prot) (c : List Addr) (H : Hp) (Q : VK) (r : RX) (st' : Sto) : Prop := match r with
  | .ok d => ∀ v N' c' H', Ex N c H N' c' H' → Wd mg N' c' H' st' → Rep mg N' c' H' v d → Q v H'
  | .ex cn d => ∀ N' c' H' cls dd, Ex N c H N' c' H' → Wd mg N' c' H' st' → XcP mg N' c' H' cls dd cn d → W cls dd σ H'
section
variable {mg : Glob} {W : WX} {E : En} {N N' : Prot} {c c' : List Addr} {H H' : Hp} {De : Ends} {o : OutX} {st st' : Sto} {env env' : Env} {σ : L2.St}
theorem PostX.from (x : Sx N c H N' c' H') (p : PostX mg W E N c H De o st') : PostX mg W E N' c' H' De o st' := by
  cases o with
  | o o => exact PostS.from x p
  | ex cn d e => exact fun N2 c2 σ2 H2 cls dd x2 R2 z => p N2 c2 σ2 H2 cls dd (x.trans x2) R2 z
end
def xL (f : SS) : SX := fun env st => (f env st).map fun p => (.o p.1, p.2)
def xNil : SX := fun env st => some (.o (.nx env), st)
def xSeq (f g : SX) : SX := fun env st => match f env st with
  | some (.o (.nx e), s1) => g e s1
  | r => r
def xIf (t : SB) (f g : SX) : SX := fun env st => match t env st with
  | some (true, s1) => f env s1
  | some (false, s1) => g env s1
  | none => none
def xRaise (cn : Str) (f : SE) : SX := fun env st => match f env st with
  | some (d, s1) => some (.ex cn d env, s1)
  | none => none
def xDrop (f : EX) : SX := fun env st => match f env st with
  | some (.ok _, s1) => some (.o (.nx env), s1)
  | some (.ex cn d, s1) => some (.ex cn d env, s1)
  | none => none
def xSet (i : Nat) (f : EX) : SX := fun env st => match f env st with
  | some (.ok d, s1) => some (.o (.nx (env.set i (.val d))), s1)
  | some (.ex cn d, s1) => some (.ex cn d env, s1)
  | none => none
def xRet (f : EX) : SX := fun env st => match f env st with
  | some (.ok d, s1) => some (.o (.rt d), s1)
  | some (.ex cn d, s1) => some (.ex cn d env, s1)
  | none => none
section
variable {mg : Glob} {X : Cx} {W : WX} {s : Stmt} {rest : List Stmt} {e : Expr} {pos : Pos} {f g : SX} {fe : EX} {fs : SS} {t : SB}
end
end LW

/-! LwEd: raise; calls of defs that may raise; such defs. -/
namespace LW
open PySem L2 PyProof.Rows
section
variable {mg : Glob} {X : Cx} {W : WX} {s : Stmt} {rest : List Stmt} {e : Expr} {es : List Expr} {pos : Pos} {f g : SX} {fe : EX} {fv : SE} {fs : SS} {t : SB}
end
/-! ### defs that may raise -/
def fnX (n m : Nat) (body : SX) : FX := fun ds st => if ds.length = n then (match body (env0 m ds) st with
  | some (.o (.rt d), s1) => some (.ok d, s1)
  | some (.o (.nx _), s1) => some (.ok .non, s1)
  | some (.ex cn d _, s1) => some (.ex cn d, s1)
  | _ => none) else none
def eCallX (g : FX) (dd : List D) (f : SA) : EX := fun env st => match f env st with
  | none => none
  | some (ds, s1) => g (ds ++ dd) s1
section
variable {P : Program} {w : World} {K : PySem.W.Frag} {mg : Str → Option Value} {base : Heap}
theorem XcP.fin {m : Glob} {E : En} {N : Prot} {c : List Addr} {env : Env} {st : Sto} {σ : L2.St} {H : Hp} {cls : Value} {dd : Option Addr} {cn : Str} {d : D} (R : Rel m E N c env st σ H) (z : XcP m N c H cls dd cn d) : XcP m (fun a => E.N0 a ∨ a ∈ c) c H cls dd cn d := by
  have less : ∀ a, (E.N0 a ∨ a ∈ c) → N a := fun a z => z.elim (R.n0 a) (R.wd.cn a)
  rcases z with ⟨C, da, v, e1, e2, e3, e4, e5, e6⟩ | z
  · exact .inl ⟨C, da, v, e1, e2, e3, e4, fun q => e5 (less _ q), e6.tr (Tr.less less)⟩
  · exact .inr z
end
section
variable {mg : Glob} {X : Cx} {W : WX} {k : Nat} {f C : Addr} {fd : FuncData} {ps : List Str} {g : FX} {n : Nat} {dvs : List V} {ds : List Value} {dd : List D} {x m : Str} {p pos apos : Pos} {e o : Expr} {es : List Expr} {fs : SA}
end
end LW

/-! LwEe: try: body / except C1 as e: .. / except C2: .. -/
namespace LW
open PySem L2 PyProof.Rows
/-- a clause: its class, the slot of its name, its suite by the error's value -/
abbrev Cl := Str × Option Nat × (D → SS)
def unO (i : Nat) : Out → Out
  | .nx e => .nx (e.set i .un)
  | .bk e => .bk (e.set i .un)
  | .ct e => .ct (e.set i .un)
  | .rt d => .rt d
def hRun (sub : Str → Str → Option Bool) (cn : Str) (d : D) : List Cl → SS
  | [] => fun _ _ => none
  | (cn', none, fh) :: r => fun env st => match sub cn cn' with
    | some true => fh .non env st
    | some false => hRun sub cn d r env st
    | none => none
  | (cn', some i, fh) :: r => fun env st => match sub cn cn' with
    | some true => if cn = cn' ∧ i < env.length ∧ isBare d = false then (match fh d (env.set i .un) st with
      | some (o, s1) => some (unO i o, s1)
      | none => none) else none
    | some false => hRun sub cn d r env st
    | none => none
def sTry (sub : Str → Str → Option Bool) (fb : SX) (l : List Cl) : SS := fun env st => match fb env st with
  | some (.o o, s1) => some (o, s1)
  | some (.ex cn d e1, s1) => hRun sub cn d l e1 s1
  | none => none
section
variable {mg : Glob} {X : Cx} {i : Nat} {cn : Str} {a : Addr} {oe : Obj} {cls : Value} {dd : Option Addr} {pn : List (Addr × Obj)} {e : Expr} {pos : Pos} {f : D → SE}
end
/-! ### the clauses -/
section
variable {mg : Glob} {X : Cx} {sub : Str → Str → Option Bool}
end
end LW

/-! LwEf: short words: defs that may raise, exception classes with their facts. -/
namespace LW
open PySem L2 PyProof.Rows
section
variable {P : Program} {K : PySem.W.Frag} {mg : Str → Option Value} {h : Heap} {cn : Str} {C L fI N N' cc cda oT : Addr} {nm q nm' q' qual file : Str} {bs bm sub bs' sub' : List Value} {sn sn' : List Str} {hd' ab' : Bool} {col' : Option Bool} {dd' : Option Addr} {j0 j1 j2 j3 j5 : Option Value} {nw' : String} {ab : Bool} {col : Option Bool} {dd od an cdd cld odT : Option Addr} {k0 k1 k2 k3 k5 : Option Value}
  {oc kV doc pm ct ccl cl ocT : Value} {osl ccs csl oslT : Array (Option Value)} {vs : Array Value} {tf : Tok} {nt : Nat} {p1 p2 p3 a1 a2 a3 a4 b1 b2 b3 b4 : Pos}
end
section
variable (P : Program) (w : World) (K : PySem.W.Frag) (mg : Str → Option Value) (base : Heap)
end
section
variable {P : Program} {w : World} {K : PySem.W.Frag} {mg : Str → Option Value} {base : Heap} {k : Nat} {x : Str} {st : Stmt} {nm ps : List Str} {body : SX}
end
section
variable {mg : Glob} {X : Cx} {W : WX} {k n : Nat} {ps : List Str} {g : FX} {dvs : List V} {dd : List D} {x : Str} {p pos : Pos} {e : Expr} {es : List Expr} {fs : SA}
end
/-! ### which class lies below which -/
section
variable {K : PySem.W.Frag} {mg : Str → Option Value} {h : Heap} {cn cn' : Str} {b : Bool} {C C' : Addr} {tbl : List (Str × Str × Bool)}
end
section
variable {mg : Glob} {X : Cx} {cn n : Str} {i : Nat} {C : Addr} {fh : D → SS} {b₀ : Stmt} {suite : List Stmt} {np pos' : Pos} {hds : List ExceptHandler} {l : List (Addr × Cl)}
end
end LW

/-! LwEg: a thing of any kind in a list of tuples of ints; len(set(tuples of ints)). -/
namespace PySem.SeqAt
open PySem
section
theorem tuple_eq_declines_dictL (l b : Addr) (items : Array Value) (n : Nat) (dd dd2 : Option Addr) (sl sl2 : Array (Option Value)) (dt : Data) :
    Meets (Builtin.«tuple.__eq__» ⟨[.ref l, .ref b], []⟩) (fun _ R s => s.heap.get? l = some { cls := .type "tuple", dict := dd, data := .seq items n, slots := sl } ∧ s.heap.get? b = some { cls := .type "dict", dict := dd2, data := dt, slots := sl2 } ∧ R (.ok (.ret .notImplemented)) s) :=
  .of_wp fun prog w A R s h => by obtain ⟨hp, g, d, tk, os⟩ := s; obtain ⟨hl, hb, h⟩ := h; have f1 := F.sub_dict_tuple; wp_walk using wpAny_loadPart' hl, wpAny_loadPart' hb; exact ⟨_, rfl, h⟩
theorem dict_eq_declines_tupleL (b l : Addr) (items : Array Value) (n : Nat) (dd dd2 : Option Addr) (sl sl2 : Array (Option Value)) (es : Array DictEntry) (ep : Nat) :
    Meets (Builtin.«dict.__eq__» ⟨[.ref b, .ref l], []⟩) (fun _ R s => s.heap.get? b = some { cls := .type "dict", dict := dd2, data := .dict es ep, slots := sl2 } ∧ s.heap.get? l = some { cls := .type "tuple", dict := dd, data := .seq items n, slots := sl } ∧ R (.ok (.ret .notImplemented)) s) :=
  .of_wp fun prog w A R s h => by obtain ⟨hp, g, d, tk, os⟩ := s; obtain ⟨hb, hl, h⟩ := h; have f1 := F.sub_tuple_dict; wp_walk using wpAny_loadPart' hl, wpAny_loadPart' hb; exact ⟨_, rfl, h⟩
theorem int_eq_declines_dictL (b : Int) (u : Tok) (l : Addr) (c : Value) (dt : Data) (dd : Option Addr) (sl : Array (Option Value)) (es : Array DictEntry) (ep : Nat) :
    Meets (Builtin.«int.__eq__» ⟨[.int b u, .ref l], []⟩) (fun _ R s => s.heap.get? l = some { cls := c, dict := dd, data := .dict es ep, slots := sl } ∧ R (.ok (.ret .notImplemented)) s) :=
  .of_wp fun prog w A R s h => by obtain ⟨hp, g, d, tk, os⟩ := s; obtain ⟨hl, h⟩ := h; wp_walk using wpAny_loadPart' hl, wpAny_load hl; exact ⟨_, rfl, h⟩
theorem dict_eq_declines_intL (l : Addr) (dd : Option Addr) (sl : Array (Option Value)) (es : Array DictEntry) (ep : Nat) (b : Int) (u : Tok) :
    Meets (Builtin.«dict.__eq__» ⟨[.ref l, .int b u], []⟩) (fun _ R s => s.heap.get? l = some { cls := .type "dict", dict := dd, data := .dict es ep, slots := sl } ∧ R (.ok (.ret .notImplemented)) s) :=
  .of_wp fun prog w A R s h => by obtain ⟨hp, g, d, tk, os⟩ := s; obtain ⟨hl, h⟩ := h; have f1 := F.sub_int_dict; wp_walk using wpAny_loadPart' hl, wpAny_load hl; exact ⟨_, rfl, h⟩
end
end PySem.SeqAt
namespace PySem.SeqAt
open PySem
section
variable {A : Around} {s : Shared}
def IsD (h : Heap) (b : Addr) : Prop := ∃ o es ep, h.get? b = some o ∧ o.cls = .type "dict" ∧ o.data = .dict es ep
theorem RcAt.tuple_dictL {l b : Addr} {items : Array Value} (hl : s.heap.IsTuple l items) (hb : IsD s.heap b) (hu : A.units < cLine) : RcAt A s (.ref l) (.ref b) false := fun prog w E Q h => by
  obtain ⟨⟨cls, dd, data, sl⟩, ho, hc, n, hd⟩ := id hl
  obtain ⟨⟨cls2, dd2, data2, sl2⟩, es, ep, ho2, hc2, hd2⟩ := id hb
  simp only at hc hd hc2 hd2
  subst hc hd hc2 hd2
  have hne : l ≠ b := fun z => by
    subst z
    exact absurd (congrArg Obj.cls (Option.some.inj (ho.symm.trans ho2))) (by simp)
  exact (rc_eq_decline_or (k := false) ⟨_, ho, rfl⟩ ⟨_, ho2, rfl⟩ (by decide) F.sub_dict_tuple F.slot_tuple_eq F.slot_dict_eq
    (fun _ hq => call_meets F.slot_tuple_eq ⟨_, ho, rfl⟩ F.entry_tuple_eq (F.args_tuple_eq_2 _ _) (tuple_eq_declines_dictL l b items n dd dd2 sl sl2 _) ⟨ho, ho2, hq⟩)
    (fun _ hq => call_meets F.slot_dict_eq ⟨_, ho2, rfl⟩ F.entry_dict_eq (F.args_dict_eq_2 _ _) (dict_eq_declines_tupleL b l items n dd dd2 sl sl2 es ep) ⟨ho2, ho, hq⟩)
    (fun _ hq => wpAny_isSame_ref_other' hne ho ho2 (by simp) hq) (.inr hu) h)
theorem RcAt.int_dictL {l : Addr} (b : Int) (u : Tok) (hl : IsD s.heap l) (hu : A.units < cLine) : RcAt A s (.int b u) (.ref l) false := fun prog w E Q h => by
  obtain ⟨⟨cls, dd, data, sl⟩, es, ep, ho, hc, hd⟩ := id hl
  simp only at hc hd
  subst hc hd
  exact rc_eq_decline_or (k := false) (typeIs_int s b u) ⟨_, ho, rfl⟩ (by decide) F.sub_dict_int F.slot_int_eq F.slot_dict_eq
    (fun _ hq => call_meets F.slot_int_eq (typeIs_int s b u) F.entry_int_eq (F.args_int_eq_2 _ _) (int_eq_declines_dictL b u l (.type "dict") (.dict es ep) dd sl es ep) ⟨ho, hq⟩)
    (fun _ hq => call_meets F.slot_dict_eq ⟨_, ho, rfl⟩ F.entry_dict_eq (F.args_dict_eq_2 _ _) (dict_eq_declines_intL l dd sl es ep b u) ⟨ho, hq⟩)
    (fun _ hq => wpAny_of_eq (rfl : isSame (.int b u) (.ref l) = pure false) hq) (.inr hu) h
theorem EqAt.int_dictL {l : Addr} (b : Int) (u : Tok) (hl : IsD s.heap l) (hu : A.units < cLine) : EqAt A s (.int b u) (.ref l) false := fun prog w E Q h => by
  unfold eqBool
  refine wpAny_holding ?_
  refine wpAny_ite_split (fun hab => absurd (eq_of_beq hab) nofun) (fun _ => ?_)
  exact wpAny_bind (RcAt.int_dictL b u hl hu prog w E _ (wpAny_truthy_bool h))
theorem EqAt.tuple_dictL {l b : Addr} {items : Array Value} (hl : s.heap.IsTuple l items) (hb : IsD s.heap b) (hu : A.units < cLine) : EqAt A s (.ref l) (.ref b) false := by
  refine .of_refs (fun z => ?_) (.tuple_dictL hl hb hu)
  subst z
  obtain ⟨o, ho, hc, _⟩ := hl
  obtain ⟨o2, es, ep, ho2, hc2, _⟩ := hb
  rw [ho] at ho2
  cases ho2
  rw [hc] at hc2
  exact absurd hc2 (by simp)
end
end PySem.SeqAt
namespace L2
open PySem PySem.Spec PyProof.Rows
/-- what an int is to a thing -/
def E0i (K : PySem.W.Frag) (H : Hp) (n : Int) (x : V) (b : Bool) : Prop :=
  (∃ m, x = .int m ∧ b = (n == m)) ∨ (∃ c : Bool, x = .bl c ∧ b = (n == (if c then 1 else 0))) ∨ (b = false ∧ (x = .non ∨ (∃ z, x = .str z) ∨ ∃ a, x = .ref a ∧ ((∃ ys, SqT K H a ys) ∨ (∃ ys, SqL K H a ys) ∨ ∃ kvs, Rd H a (.dK kvs))))
/-- what a tuple of ints is to a thing -/
def ETi (K : PySem.W.Frag) (H : Hp) (ns : List Int) (x : V) (b : Bool) : Prop :=
  (∃ a ys e, x = .ref a ∧ SqT K H a ys ∧ (∀ j n y, ns[j]? = some n → ys[j]? = some y → E0i K H n y (e j)) ∧ b = ((List.range (min ns.length ys.length)).all e && ns.length == ys.length)) ∨
  (b = false ∧ (x = .non ∨ (∃ c, x = .bl c) ∨ (∃ m, x = .int m) ∨ (∃ z, x = .str z) ∨ ∃ a, x = .ref a ∧ ((∃ ys, SqL K H a ys) ∨ ∃ kvs, Rd H a (.dK kvs))))
theorem pgetR {α β : Type} {F : α → β → Prop} : ∀ {l₁ : List α} {l₂ : List β} {j : Nat} {x : β}, Paired F l₁ l₂ → l₂[j]? = some x → ∃ y, l₁[j]? = some y ∧ F y x
  | _, _, _, _, .nil, e => by simp at e
  | _, _, 0, x, .cons h _, e => by simp at e; subst e; exact ⟨_, rfl, h⟩
  | _, _, j + 1, x, .cons _ t, e => by
    obtain ⟨y, h1, h2⟩ := pgetR (j := j) (x := x) t (by simpa using e)
    exact ⟨y, by simpa using h1, h2⟩
section
variable {X : Cx} {pins : List (Addr × Obj)} {σ : St} {H : Hp} {s : Shared}
theorem isD_of (I : Inv X pins σ H s) {a : Addr} {kvs : List (Key × V)} (h : Rd H a (.dK kvs)) : SeqAt.IsD s.heap a := by
  obtain ⟨_, _, vs, _, o, es, ep, ho, hx, hd, _⟩ := dk_rd I.hok h
  exact ⟨o, es, ep, ho, hx.1, hd⟩
theorem plainL_is {h : Heap} {a : Addr} {its : Array Value} (p : PlainL h a its) : h.IsList a its := by
  obtain ⟨o, n, h1, h2, _, h4⟩ := p
  exact ⟨o, h1, h2, n, h4⟩
theorem e0_run (I : Inv X pins σ H s) {A : Around} (hu : A.units < cLine) {n : Int} {t : Tok} {x : V} {u : Value} {b : Bool} (h : E0i X.K H n x b) (r : RelV x u) : SeqAt.EqAt A s (.int n t) u b := by
  rcases h with ⟨m, rfl, rfl⟩ | ⟨c, rfl, rfl⟩ | ⟨rfl, rfl | ⟨z, rfl⟩ | ⟨a, rfl, ⟨ys, h⟩ | ⟨ys, h⟩ | ⟨kvs, h⟩⟩⟩
  · obtain ⟨t', rfl⟩ := r
    exact .int_int n t m t'
  · obtain rfl : u = .bool c := r
    exact .int_bool n t c
  · obtain rfl : u = .none := r
    exact .int_none n t
  · obtain ⟨t', rfl⟩ := r
    exact .int_str n t z t'
  · obtain rfl : u = .ref a := r
    obtain ⟨its, _, hp, _⟩ := I.tuple h
    exact .int_tuple n t hp hu
  · obtain rfl : u = .ref a := r
    obtain ⟨its, _, hp, _⟩ := I.list h
    exact .int_list n t (plainL_is hp) hu
  · obtain rfl : u = .ref a := r
    exact .int_dictL n t (isD_of I h) hu
theorem et_run (I : Inv X pins σ H s) {A : Around} (hu : A.units + 1 < cLine) {ns : List Int} {l : Addr} (hl : SqT X.K H l (ns.map V.int)) {x : V} {u : Value} {b : Bool} (h : ETi X.K H ns x b) (r : RelV x u) : SeqAt.EqAt A s (.ref l) u b := by
  obtain ⟨its, rv, hp, _⟩ := I.tuple hl
  rcases h with ⟨a, ys, e, rfl, hy, he, rfl⟩ | ⟨rfl, rfl | ⟨c, rfl⟩ | ⟨m, rfl⟩ | ⟨z, rfl⟩ | ⟨a, rfl, ⟨ys, h⟩ | ⟨kvs, h⟩⟩⟩
  · obtain rfl : u = .ref a := r
    obtain ⟨its2, rv2, hp2, _⟩ := I.tuple hy
    have l1 : its.length = ns.length := by rw [← rv.length, List.length_map]
    have l2 : its2.length = ys.length := rv2.length.symm
    by_cases q : l = a
    · subst q
      have hk := I.tuple_inj hl hy
      subst hk
      have : ((List.range (min ns.length (ns.map V.int).length)).all e && ns.length == (ns.map V.int).length) = true := by
        rw [List.length_map, Nat.min_self]
        simp only [beq_self_eq_true, Bool.and_true]
        rw [List.all_eq_true]
        intro j hj
        have hj' : j < ns.length := List.mem_range.mp hj
        have z := he j ns[j] (.int ns[j]) (List.getElem?_eq_getElem hj') (by rw [List.getElem?_map, List.getElem?_eq_getElem hj']; rfl)
        rcases z with ⟨m, e1, e2⟩ | ⟨c, e1, _⟩ | ⟨_, e1 | ⟨z, e1⟩ | ⟨a', e1, _⟩⟩
        · cases e1
          rw [e2]
          simp
        · cases e1
        · cases e1
        · cases e1
        · cases e1
      rw [this]
      exact .same _
    · have rc := SeqAt.RcAt.tuples (A := A) (e := e) hp hp2 (by omega) (fun j h1 h2 => by
        have h1' : j < its.length := by simpa using h1
        have h2' : j < its2.length := by simpa using h2
        obtain ⟨v, ev, rvj⟩ := pgetR rv (List.getElem?_eq_getElem h1')
        obtain ⟨y, ey, ryj⟩ := pgetR rv2 (List.getElem?_eq_getElem h2')
        rw [List.getElem?_map] at ev
        cases hn : ns[j]? with
        | none => rw [hn] at ev; cases ev
        | some n =>
          rw [hn] at ev
          cases ev
          obtain ⟨t, et⟩ := rvj
          have q1 := e0_run I (A := A.in1) (by rw [show A.in1.units = A.units + 1 from rfl]; omega) (t := t) (he j n y hn ey) ryj
          show SeqAt.EqAt A.in1 s its.toArray[j] its2.toArray[j] (e j)
          rw [List.getElem_toArray, List.getElem_toArray, et]
          exact q1)
      rw [show its.toArray.size = ns.length by rw [List.size_toArray, l1], show its2.toArray.size = ys.length by rw [List.size_toArray, l2]] at rc
      exact .of_refs q rc
  · obtain rfl : u = .none := r
    exact .tuple_none hp (by omega)
  · obtain rfl : u = .bool c := r
    exact .tuple_bool c hp (by omega)
  · obtain ⟨t', rfl⟩ := r
    exact .tuple_int m t' hp (by omega)
  · obtain ⟨t', rfl⟩ := r
    exact .tuple_str z t' hp (by omega)
  · obtain rfl : u = .ref a := r
    obtain ⟨its2, _, hp2, _⟩ := I.list h
    exact .tuple_list hp (plainL_is hp2) (by omega)
  · obtain rfl : u = .ref a := r
    exact .tuple_dictL hp (isD_of I h) (by omega)
/-- a thing in a list of tuples of ints -/
def rInI (K : PySem.W.Frag) (neg : Bool) : R2 := fun x y H Q => ∃ (l : Addr) (ps : List (Addr × List Int)) (bs : List Int → Bool), y = .ref l ∧ SqL K H l (ps.map fun p => V.ref p.1) ∧ (∀ p ∈ ps, SqT K H p.1 (p.2.map V.int) ∧ ETi K H p.2 x (bs p.2)) ∧ Q (.bl (if neg then !(ps.any fun p => bs p.2) else ps.any fun p => bs p.2)) H
theorem any_refs {e : Value → Bool} {f : Addr × List Int → Bool} : ∀ {ps : List (Addr × List Int)} {its : List Value}, Vals (ps.map fun p => V.ref p.1) its → (∀ p ∈ ps, e (.ref p.1) = f p) → its.any e = ps.any f
  | [], _, .nil, _ => rfl
  | p :: ps, _, .cons h t, hf => by
    obtain rfl := (show _ = Value.ref p.1 from h)
    rw [List.any_cons, List.any_cons, hf p (List.mem_cons_self ..), any_refs t fun q hq => hf q (List.mem_cons_of_mem _ hq)]
open Classical in
theorem op_inI (hu : X.A.units + 3 < cLine) : OpR X (compareOp .In) (rInI X.K false) := by
  intro pins s σ H x y v u Q I rx ry h
  obtain ⟨l, ps, bs, rfl, hl, hp, q⟩ := h
  obtain rfl : u = .ref l := ry
  obtain ⟨its, rv, pl, _⟩ := I.list hl
  have key : ∀ p ∈ ps, ∀ p' ∈ ps, p.1 = p'.1 → bs p.2 = bs p'.2 := fun p h1 p' h2 e => by
    have a1 := (hp p h1).1
    have a2 := (hp p' h2).1
    rw [← e] at a2
    have := I.tuple_inj a1 a2
    have e2 : p.2 = p'.2 := by
      have := congrArg (List.map fun v : V => match v with | .int i => i | _ => 0) this
      simpa [List.map_map, Function.comp_def] using this
    rw [e2]
  let ev : Value → Bool := fun z => decide (∃ p ∈ ps, z = .ref p.1 ∧ bs p.2 = true)
  have hev : ∀ p ∈ ps, ev (.ref p.1) = bs p.2 := fun p h1 => by
    by_cases hb : bs p.2 = true
    · rw [hb]; exact decide_eq_true ⟨p, h1, rfl, hb⟩
    · rw [show bs p.2 = false by simpa using hb]
      refine decide_eq_false fun ⟨p', h2, e, hb'⟩ => ?_
      have e' : p.1 = p'.1 := by injection e
      rw [← key p h1 p' h2 e'] at hb'
      exact hb hb'
  refine SeqAt.in_listAt ev (plainL_is pl) (fun z hz => ?_) ?_
  · have hz' : z ∈ its := by simpa using hz
    obtain ⟨j, hj⟩ := List.getElem?_of_mem hz'
    obtain ⟨w, ew, rw_⟩ := pgetR rv hj
    rw [List.getElem?_map] at ew
    cases hn : ps[j]? with
    | none => rw [hn] at ew; cases ew
    | some p =>
      rw [hn] at ew
      cases ew
      obtain rfl := (show z = Value.ref p.1 from rw_)
      have hm := List.mem_of_getElem? hn
      rw [hev p hm]
      exact et_run I (A := X.A.in1) (by rw [show X.A.in1.units = X.A.units + 1 from rfl]; omega) (hp p hm).1 (hp p hm).2 rx
  · rw [show its.toArray.any ev = its.any ev by simp, any_refs rv hev]
    exact ⟨.bl _, H, I, rfl, q⟩
end
end L2
namespace LW
open PySem L2 PyProof.Rows
def natsOf : List D → Option (List Int)
  | [] => some []
  | .int i :: r => (natsOf r).map (i :: ·)
  | _ :: _ => none
theorem natsOf_eq : ∀ {xs : List D} {ns : List Int}, natsOf xs = some ns → xs = ns.map D.int
  | [], _, e => by cases e; rfl
  | .int i :: r, _, e => by
    unfold natsOf at e
    cases h : natsOf r with
    | none => rw [h] at e; cases e
    | some ns =>
      rw [h] at e
      cases e
      rw [natsOf_eq h]
      rfl
  | .non :: _, _, e | .bl _ :: _, _, e | .str _ :: _, _, e | .ty _ :: _, _, e | .tup _ :: _, _, e | .lst _ :: _, _, e | .fro _ :: _, _, e | .cell _ :: _, _, e | .obj _ _ _ :: _, _, e | .cls _ :: _, _, e | .dic _ _ :: _, _, e | .dit _ _ :: _, _, e => by cases e
/-- a list of tuples of ints -/
def tupsOf : List D → Option (List (List Int))
  | [] => some []
  | .tup xs :: r => match natsOf xs, tupsOf r with
    | some ns, some l => some (ns :: l)
    | _, _ => none
  | _ :: _ => none
/-- what an int is to a thing -/
def e0D (n : Int) : D → Option Bool
  | .int m => some (n == m)
  | .bl c => some (n == (if c then 1 else 0))
  | .non => some false
  | .str _ => some false
  | .tup _ => some false
  | .lst _ => some false
  | .fro _ => some false
  | .dic _ _ => some false
  | _ => none
/-- what a tuple of ints is to a thing -/
def etD (ns : List Int) : D → Option Bool
  | .tup ys => if ys.all (fun y => (e0D 0 y).isSome) = true then some ((List.range (min ns.length ys.length)).all (fun j => match ns[j]?, ys[j]? with
      | some n, some y => (e0D n y).getD false
      | _, _ => false) && ns.length == ys.length) else none
  | .int _ => some false
  | .bl _ => some false
  | .non => some false
  | .str _ => some false
  | .lst _ => some false
  | .fro _ => some false
  | .dic _ _ => some false
  | _ => none
theorem etD_tup (ns : List Int) (ys : List D) : etD ns (.tup ys) = if ys.all (fun y => (e0D 0 y).isSome) = true then some ((List.range (min ns.length ys.length)).all (fun j => match ns[j]?, ys[j]? with
      | some n, some y => (e0D n y).getD false
      | _, _ => false) && ns.length == ys.length) else none := rfl
section
variable {mg : Glob} {N : Prot} {c : List Addr} {H : Hp} {st : Sto}
theorem rep_seq {v : V} {xs : List D} (h : Rep mg N c H v (.fro xs)) : ∃ a ys, v = .ref a ∧ SqL mg.K H a ys := by
  cases h with
  | fro h _ _ => exact ⟨_, _, rfl, .inl (.inr ⟨_, h⟩)⟩
  | kro h => exact ⟨_, _, rfl, h H⟩
theorem rep_dic {v : V} {ks : List Key} {xs : List D} (h : Rep mg N c H v (.dic ks xs)) : ∃ a kvs, v = .ref a ∧ Rd H a (.dK kvs) := by
  cases h with
  | dic h _ _ _ => exact ⟨_, _, rfl, .inl h⟩
  | dfz h _ _ _ => exact ⟨_, _, rfl, .inr ⟨_, h⟩⟩
theorem e0_rel {v : V} {d : D} {n : Int} {b : Bool} (e : e0D n d = some b) (h : Rep mg N c H v d) : E0i mg.K H n v b := by
  cases d with
  | int m =>
    cases e
    cases h
    exact .inl ⟨m, rfl, rfl⟩
  | bl q =>
    cases e
    cases h
    exact .inr (.inl ⟨q, rfl, rfl⟩)
  | non =>
    cases e
    cases h
    exact .inr (.inr ⟨rfl, .inl rfl⟩)
  | str x =>
    cases e
    cases h
    exact .inr (.inr ⟨rfl, .inr (.inl ⟨x, rfl⟩)⟩)
  | tup xs =>
    cases e
    cases h with
    | tup h _ => exact .inr (.inr ⟨rfl, .inr (.inr ⟨_, rfl, .inl ⟨_, SqT.of h⟩⟩)⟩)
  | lst xs =>
    cases e
    cases h with
    | lst h _ _ => exact .inr (.inr ⟨rfl, .inr (.inr ⟨_, rfl, .inr (.inl ⟨_, SqL.of h⟩)⟩)⟩)
  | fro xs =>
    cases e
    obtain ⟨a, ys, rfl, hs⟩ := rep_seq h
    exact .inr (.inr ⟨rfl, .inr (.inr ⟨_, rfl, .inr (.inl ⟨_, hs⟩)⟩)⟩)
  | dic ks xs =>
    cases e
    obtain ⟨a, kvs, rfl, hs⟩ := rep_dic h
    exact .inr (.inr ⟨rfl, .inr (.inr ⟨_, rfl, .inr (.inr ⟨_, hs⟩)⟩)⟩)
  | _ => cases e
theorem e0_some {n m : Int} {d : D} (h : (e0D n d).isSome = true) : (e0D m d).isSome = true := by
  cases d <;> first | rfl | exact h
theorem et_rel {v : V} {d : D} {ns : List Int} {b : Bool} (e : etD ns d = some b) (h : RepT mg N c H v d) : ETi mg.K H ns v b := by
  rcases h with h | ⟨a, vs, xs, rfl, rfl, ha, _, r⟩
  · cases d with
    | int m =>
      cases e
      cases h
      exact .inr ⟨rfl, .inr (.inr (.inl ⟨m, rfl⟩))⟩
    | bl q =>
      cases e
      cases h
      exact .inr ⟨rfl, .inr (.inl ⟨q, rfl⟩)⟩
    | non =>
      cases e
      cases h
      exact .inr ⟨rfl, .inl rfl⟩
    | str x =>
      cases e
      cases h
      exact .inr ⟨rfl, .inr (.inr (.inr (.inl ⟨x, rfl⟩)))⟩
    | tup xs =>
      rw [etD_tup] at e
      split at e
      · rename_i hall
        cases e
        cases h with
        | tup h r =>
          refine .inl ⟨_, _, fun j => match ns[j]?, xs[j]? with
            | some n, some y => (e0D n y).getD false
            | _, _ => false, rfl, SqT.of h, fun j n y hn hy => ?_, by rw [r.length]⟩
          obtain ⟨d, hd, rd⟩ := r.getV hy
          have q1 : (e0D 0 d).isSome = true := List.all_eq_true.mp hall d (List.mem_of_getElem? hd)
          have q2 := e0_some (m := n) q1
          cases hv : e0D n d with
          | none => rw [hv] at q2; cases q2
          | some b =>
            have : (match ns[j]?, xs[j]? with
              | some n, some y => (e0D n y).getD false
              | _, _ => false) = b := by rw [hn, hd]; simp only [hv]; rfl
            show E0i mg.K H n y (match ns[j]?, xs[j]? with
              | some n, some y => (e0D n y).getD false
              | _, _ => false)
            rw [this]
            exact e0_rel hv rd
      · cases e
    | lst xs =>
      cases e
      cases h with
      | lst h _ _ => exact .inr ⟨rfl, .inr (.inr (.inr (.inr ⟨_, rfl, .inl ⟨_, SqL.of h⟩⟩)))⟩
    | fro xs =>
      cases e
      obtain ⟨a, ys, rfl, hs⟩ := rep_seq h
      exact .inr ⟨rfl, .inr (.inr (.inr (.inr ⟨_, rfl, .inl ⟨_, hs⟩⟩)))⟩
    | dic ks xs =>
      cases e
      obtain ⟨a, kvs, rfl, hs⟩ := rep_dic h
      exact .inr ⟨rfl, .inr (.inr (.inr (.inr ⟨_, rfl, .inr ⟨_, hs⟩⟩)))⟩
    | _ => cases e
  · cases e
    exact .inr ⟨rfl, .inr (.inr (.inr (.inr ⟨_, rfl, .inl ⟨_, SqL.of ha⟩⟩)))⟩
end
end LW
namespace L2
open PySem PySem.Spec PyProof.Rows
end L2
namespace LW
open PySem L2 PyProof.Rows
section
variable {mg : Glob} {N : Prot} {c : List Addr} {H : Hp} {st : Sto}
theorem tups_rel : ∀ {xs : List D} {vs : List V} {l : List (List Int)}, RepL mg N c H vs xs → tupsOf xs = some l → ∃ ps : List (Addr × List Int), vs = ps.map (fun p => V.ref p.1) ∧ ps.map (·.2) = l ∧ ∀ p ∈ ps, SqT mg.K H p.1 (p.2.map V.int)
  | [], _, _, .nil, e => by
    cases e
    exact ⟨[], rfl, rfl, fun p h => by cases h⟩
  | x :: xs, _, _, .cons h r, e => by
    unfold tupsOf at e
    split at e
    · rename_i hx
      cases hx
    · rename_i zs r' hx
      cases hx
      split at e
      · rename_i ns l' h1 h2
        cases e
        obtain ⟨ps, rfl, hm, hp⟩ := tups_rel r h2
        cases h with
        | @tup a ws _ ha ra =>
          have e1 := natsOf_eq h1
          subst e1
          have e2 := ra.of_ints
          subst e2
          refine ⟨(a, ns) :: ps, rfl, by rw [List.map_cons, hm], fun p hq => ?_⟩
          rcases List.mem_cons.mp hq with rfl | hq
          · exact SqT.of ha
          · exact hp p hq
      · cases e
    · cases e
/-- x in xs, xs a list of tuples of ints -/
def oInP (neg : Bool) : D → D → Sto → Option D := fun x y st => match lstR st y with
  | some ys => (match tupsOf ys with
    | some l => if l.all (fun ns => (etD ns x).isSome) = true then some (.bl (if neg then !(l.any fun ns => (etD ns x).getD false) else l.any fun ns => (etD ns x).getD false)) else none
    | none => none)
  | none => none
theorem ok_inP {neg : Bool} : OpOk mg (RE mg) (rInI mg.K neg) (oInP neg) := by
  intro N c H st u v x y d Q W p1 p2 e k
  unfold oInP at e
  split at e
  · rename_i ys hy
    split at e
    · rename_i l hl
      split at e
      · rename_i hall
        cases e
        obtain ⟨a, vs, rfl, ha, r⟩ := RepT.read W p2 hy
        obtain ⟨ps, rfl, rfl, hp⟩ := tups_rel r hl
        refine ⟨a, ps, fun ns => (etD ns x).getD false, rfl, ha, fun p hq => ⟨hp p hq, ?_⟩, ?_⟩
        · have h1 : (etD p.2 x).isSome = true := List.all_eq_true.mp hall p.2 (List.mem_map_of_mem hq)
          cases hv : etD p.2 x with
          | none => rw [hv] at h1; cases h1
          | some b =>
            have e1 : (etD p.2 x).getD false = b := by rw [hv]; rfl
            show ETi mg.K H p.2 u ((etD p.2 x).getD false)
            rw [e1]
            exact et_rel hv p1
        · have : (ps.map (·.2)).any (fun ns => (etD ns x).getD false) = ps.any fun p => (etD p.2 x).getD false := by rw [List.any_map]; rfl
          rw [← this]
          exact k _ N c H Ex.refl W (.bl _)
      · cases e
    · cases e
  · cases e
end
section
variable {mg : Glob} {X : Cx} {a b : Expr} {pos p1 p2 p3 : Pos} {fa fb : SE}
theorem d_inP (hu : X.A.units + 65 < cLine) (ha : PE X a (tP mg fa)) (hb : PE X b (tP mg fb)) (hK : X.K = mg.K := by rfl) (hn : lastMarks [.In] [b] = false := by rfl) : PE X (.Compare a [.In] [b] pos) (tE mg (eOp (oInP false) fa fb)) := d_cmp (hK ▸ op_inI (by omega)) ok_inP back_E ha hb hn
end
end LW

/-! LwEh: != of lists of equal things, tuples and dicts among them (turned from LwYd and from the rule for tuples). -/
namespace PySem.SeqAt
open PySem
open MeetsSeq MeetsSeq2 MeetsSeq3 SeqRoads2
section
variable {prog : Program} {w : World}
theorem tuple_eqInY (l b : Addr) (items items2 : Array Value) (n n2 : Nat) (dd dd2 : Option Addr) (sl sl2 : Array (Option Value)) (e : Nat → Bool) :
    MeetsIn prog w (Builtin.«tuple.__eq__» ⟨[.ref l, .ref b], []⟩)
      (fun A R s => s.heap.get? l = some { cls := .type "tuple", dict := dd, data := .seq items n, slots := sl } ∧ s.heap.get? b = some { cls := .type "tuple", dict := dd2, data := .seq items2 n2, slots := sl2 } ∧
        (∀ j (h1 : j < items.size) (h2 : j < items2.size), EqP prog w A.in1 s items[j] items2[j] (e j)) ∧
        R (.ok (.ret (.bool ((List.range (min items.size items2.size)).all e && items.size == items2.size)))) s) :=
  by
    intro A R s h
    obtain ⟨hp, g, d, tk, os⟩ := s; obtain ⟨hl, hb, he, h⟩ := h
    have f2 := AutoSeq1.sub_tuple_tuple
    have hZ : (items.toList.zip items2.toList).length = min items.size items2.size := by simp
    wp_walk using wpAny_loadPart' hl, wpAny_loadPart' hb, wpAny_forIn_list _ (fun rest b s' => b.1 = none ∧ s' = ⟨hp, g, d, tk, os⟩ ∧ ∃ i, rest = (items.toList.zip items2.toList).drop i ∧
      R (.ok (.ret (.bool (((List.range (min items.size items2.size)).drop i).all e && items.size == items2.size)))) ⟨hp, g, d, tk, os⟩) _
    case turn =>
      rintro ⟨y, x⟩ rest b s' ⟨hb', rfl, i, hz, hR⟩
      have hlt : i < (items.toList.zip items2.toList).length := by
        rcases Nat.lt_or_ge i (items.toList.zip items2.toList).length with h' | h'
        · exact h'
        · rw [List.drop_of_length_le h'] at hz; cases hz
      have hm : i < min items.size items2.size := hZ ▸ hlt
      have h1 : i < items.size := Nat.lt_of_lt_of_le hm (Nat.min_le_left _ _)
      have h2 : i < items2.size := Nat.lt_of_lt_of_le hm (Nat.min_le_right _ _)
      rw [List.drop_eq_getElem_cons hlt] at hz
      injection hz with hyx hrest
      have hy : y = items[i] := by have := congrArg Prod.fst hyx; simpa using this
      have hx : x = items2[i] := by have := congrArg Prod.snd hyx; simpa using this
      subst hy hx
      have hd : (List.range (min items.size items2.size)).drop i = i :: (List.range (min items.size items2.size)).drop (i + 1) := by simp [List.drop_eq_getElem_cons, hm]
      rw [hd, List.all_cons] at hR
      refine wpAny_bind (he i h1 h2 _ _ ?_)
      cases hy : e i with
      | true =>
        rw [hy] at hR
        wp_walk
        exact ⟨rfl, rfl, i + 1, hrest, by simpa using hR⟩
      | false =>
        rw [hy] at hR
        wp_walk
        first | exact ⟨_, rfl, by simpa using hR⟩ | (simpa using hR)
    case fin =>
      rintro ⟨b1, b2⟩ s' ⟨hb', rfl, i, hz, hR⟩
      simp only at hb'
      subst hb'
      have hge : min items.size items2.size ≤ i := by
        rcases Nat.lt_or_ge i (items.toList.zip items2.toList).length with h' | h'
        · rw [List.drop_eq_getElem_cons h'] at hz; cases hz
        · exact hZ ▸ h'
      rw [List.drop_of_length_le (by simpa using hge)] at hR
      wp_walk
      first | exact ⟨_, rfl, by simpa [Builtin.Tuple.tupleCompareSizes] using hR⟩ | (simpa [Builtin.Tuple.tupleCompareSizes] using hR)
    case h =>
      exact ⟨rfl, rfl, 0, rfl, by simpa using h⟩


theorem rcP_tuplesY {A : Around} {s : Shared} {l b : Addr} {items items2 : Array Value} {e : Nat → Bool} (hl : s.heap.IsTuple l items) (hb : s.heap.IsTuple b items2) (hu : A.units < cLine)
    (he : ∀ j (h1 : j < items.size) (h2 : j < items2.size), EqP prog w A.in1 s items[j] items2[j] (e j)) (E Q : Value → Shared → Prop) (h : Q (.bool ((List.range (min items.size items2.size)).all e && items.size == items2.size)) s) : wpAny (model prog w) A (richCompare .Eq (.ref l) (.ref b)) Q E s := by
  obtain ⟨⟨cls, dd, data, sl⟩, ho, hc, n, hd⟩ := id hl
  obtain ⟨⟨cls2, dd2, data2, sl2⟩, ho2, hc2, n2, hd2⟩ := id hb
  simp only at hc hd hc2 hd2
  subst hc hd hc2 hd2
  have ta : s.TypeIs (.ref l) "tuple" := ⟨_, ho, rfl⟩
  have tb : s.TypeIs (.ref b) "tuple" := ⟨_, ho2, rfl⟩
  exact wpAny_richCompare_same_room (op := .Eq) ta tb F.slot_tuple_eq (call_meetsIn F.slot_tuple_eq ta F.entry_tuple_eq (F.args_tuple_eq_2 _ _) (tuple_eqInY l b items items2 n n2 dd dd2 sl sl2 e)
    ⟨ho, ho2, he, show Value.bool ((List.range (min items.size items2.size)).all e && items.size == items2.size) ≠ Value.notImplemented ∧ Q (.bool ((List.range (min items.size items2.size)).all e && items.size == items2.size)) s from ⟨(fun x => nomatch x), h⟩⟩) hu
end
end PySem.SeqAt
namespace LW
open PySem L2 PyProof.Rows
/-- two things that are equal, of nesting below n: flat ones, lists, dicts (locked ones too) -/
def EqY (K : PySem.W.Frag) (H : Hp) : Nat → V → V → Prop
  | 0 => fun _ _ => False
  | n + 1 => fun x y => (x = y ∧ flatB x = true) ∨ (∃ a b xs ys, x = .ref a ∧ y = .ref b ∧ SqL K H a xs ∧ SqL K H b ys ∧ Paired (EqY K H n) xs ys) ∨
    (∃ a b xs ys, x = .ref a ∧ y = .ref b ∧ SqT K H a xs ∧ SqT K H b ys ∧ Paired (EqY K H n) xs ys) ∨
    ∃ a b ks ls, x = .ref a ∧ y = .ref b ∧ Rd H a (.dK ks) ∧ Rd H b (.dK ls) ∧ ks.length = ls.length ∧ ∀ p ∈ ks, ∃ u, valV ls p.1 = some u ∧ EqY K H n p.2 u
section
variable {X : Cx} {pins : List (Addr × Obj)} {σ : L2.St} {H : Hp} {s : Shared}
theorem eqY_run (I : Inv X pins σ H s) : ∀ (n : Nat) (A : Around), A.units + n < cLine → ∀ (x y : V) (v u : Value), EqY X.K H n x y → RelV x v → RelV y u → SeqAt.EqP X.prog X.w A s v u true
  | 0, _, _, _, _, _, _, h, _, _ => (show False from h).elim
  | n + 1, A, hu, x, y, v, u, h, rx, ry => by
    have ih := eqY_run I n A.in1 (by show A.units + 1 + n < cLine; omega)
    rcases h with ⟨rfl, f⟩ | ⟨a, b, xs, ys, rfl, rfl, ha, hb, hp⟩ | ⟨a, b, xs, ys, rfl, rfl, ha, hb, hp⟩ | ⟨a, b, ks, ls, rfl, rfl, ha, hb, hl, hp⟩
    · exact (eqAt_same rx ry f).eqP
    · cases (show v = Value.ref a from rx)
      cases (show u = Value.ref b from ry)
      by_cases e : a = b
      · subst e
        exact (SeqAt.EqAt.same _).eqP
      · refine SeqAt.eqP_refs e fun E Q q => ?_
        obtain ⟨us, r1, p1, _⟩ := I.list ha
        obtain ⟨ws, r2, p2, _⟩ := I.list hb
        refine SeqAt.rcP_lists (e := fun _ => true) p1.isList p2.isList (by rw [List.size_toArray, List.size_toArray, ← r1.length, ← r2.length]; exact Paired.length hp) (by omega) (fun j h1 h2 => ?_) E Q ?_
        · have k := items_run ih hp r1 r2 j (by simpa using h1) (by simpa using h2)
          simpa using k
        · rw [show ((List.range us.toArray.size).all fun _ => true) = true from List.all_eq_true.mpr fun _ _ => rfl]
          exact q
    · cases (show v = Value.ref a from rx)
      cases (show u = Value.ref b from ry)
      by_cases e : a = b
      · subst e
        exact (SeqAt.EqAt.same _).eqP
      · refine SeqAt.eqP_refs e fun E Q q => ?_
        obtain ⟨us, r1, p1, _⟩ := I.tuple ha
        obtain ⟨ws, r2, p2, _⟩ := I.tuple hb
        have hz : us.toArray.size = ws.toArray.size := by rw [List.size_toArray, List.size_toArray, ← r1.length, ← r2.length]; exact Paired.length hp
        refine SeqAt.rcP_tuplesY (e := fun _ => true) p1 p2 (by omega) (fun j h1 h2 => ?_) E Q ?_
        · have k := items_run ih hp r1 r2 j (by simpa using h1) (by simpa using h2)
          simpa using k
        · rw [show ((List.range (min us.toArray.size ws.toArray.size)).all (fun _ => true) && us.toArray.size == ws.toArray.size) = true by rw [hz]; simp]
          exact q
    · cases (show v = Value.ref a from rx)
      cases (show u = Value.ref b from ry)
      by_cases e : a = b
      · subst e
        exact (SeqAt.EqAt.same _).eqP
      · refine SeqAt.eqP_refs e fun E Q q => ?_
        obtain ⟨_, ya, va, ra, da⟩ := (show ObjOk X.prog X.w H s.heap a (.dK ks) from ha.ok I.hok)
        obtain ⟨_, yb, vb, rb, db⟩ := (show ObjOk X.prog X.w H s.heap b (.dK ls) from hb.ok I.hok)
        refine PySem.W.rcP_dicts (knd := mixKind X.prog X.w) (r := true) ya yb da db (by omega) (fun _ => hits_run ih rb ra hp) E Q ?_
        rw [show (va.length == vb.length && true) = true from by rw [show va.length = vb.length by rw [← ra.length, ← rb.length]; exact hl]; simp]
        exact q
end
/-! ### equal data -/
def eqY : Nat → D → D → Bool
  | 0 => fun _ _ => false
  | n + 1 => fun x y => match x, y with
    | .int a, .int b => decide (a = b)
    | .str a, .str b => decide (a = b)
    | .bl a, .bl b => decide (a = b)
    | .non, .non => true
    | .lst xs, .lst ys => all2 (eqY n) xs ys
    | .tup xs, .tup ys => all2 (eqY n) xs ys
    | .fro xs, .fro ys => all2 (eqY n) xs ys
    | .dic ks vs, .dic ls us => decide (ks = ls) && decide (ks.Pairwise (· ≠ ·)) && all2 (eqY n) vs us
    | _, _ => false
section
variable {mg : Glob} {N : Prot} {c : List Addr} {H : Hp} {st : Sto}
end
section
variable {mg : Glob} {X : Cx} {a b : Expr} {pos : Pos} {fa fb : SE}
end
end LW

/-! LwEi: xs != [] , the things in xs of any kind. -/
namespace L2
open PySem PySem.Spec PyProof.Rows
def rNeN (K : PySem.W.Frag) : R2 := fun x y H Q => ∃ (a b : Addr) (xs : List V), x = .ref a ∧ y = .ref b ∧ SqL K H a xs ∧ SqL K H b [] ∧ Q (.bl (!xs.isEmpty)) H
theorem op_neN {X : Cx} (hu : X.A.units < cLine) : OpR X (compareOp .NotEq) (rNeN X.K) := by
  intro pins s σ H x y v u Q I rx ry h
  obtain ⟨a, b, xs, rfl, rfl, ha, hb, q⟩ := h
  obtain rfl : v = Value.ref a := rx
  obtain rfl : u = Value.ref b := ry
  obtain ⟨us, r1, p1, _⟩ := I.list ha
  obtain ⟨ws, r2, p2, _⟩ := I.list hb
  cases r2
  cases xs with
  | nil =>
    cases r1
    have rc := SeqAt.RcNeAt.lists (A := X.A) (e := fun _ => true) (plainL_is p1) (plainL_is p2) rfl hu (fun j h1 h2 => absurd h1 (by simp))
    exact rc X.prog X.w X.xe _ ⟨.bl false, H, I, rfl, q⟩
  | cons y ys =>
    have hz : (us.toArray.size != ([] : List Value).toArray.size) = true := by
      have l := r1.length
      rw [List.size_toArray, ← l]
      simp
    have rc := SeqAt.RcNeAt.lists_lengths (A := X.A) (plainL_is p1) (plainL_is p2) hz hu
    exact rc X.prog X.w X.xe _ ⟨.bl true, H, I, rfl, q⟩
end L2
namespace LW
open PySem L2 PyProof.Rows
/-- xs != [] -/
def oNeN : D → D → Sto → Option D := fun x y st => match lstR st x, y with
  | some xs, .lst [] => some (.bl (!xs.isEmpty))
  | _, _ => none
theorem ok_neN {mg : Glob} : OpOk mg (RE mg) (rNeN mg.K) oNeN := by
  intro N c H st u v x y d Q W p1 p2 e k
  unfold oNeN at e
  split at e
  · rename_i xs hx
    cases e
    obtain ⟨a, us, rfl, ha, r⟩ := RepT.read W p1 hx
    obtain ⟨b, vs, rfl, hb, r'⟩ := RepT.read W p2 (xs := []) rfl
    cases r'
    refine ⟨a, b, us, rfl, rfl, ha, hb, ?_⟩
    have : us.isEmpty = xs.isEmpty := by cases r <;> rfl
    rw [this]
    exact k _ N c H Ex.refl W (.bl _)
  · cases e
section
variable {mg : Glob} {X : Cx} {a b : Expr} {pos : Pos} {fa fb : SE}
theorem d_neN (hu : X.A.units < cLine) (ha : PE X a (tP mg fa)) (hb : PE X b (tP mg fb)) (hK : X.K = mg.K := by rfl) : PE X (.Compare a [.NotEq] [b] pos) (tE mg (eOp oNeN fa fb)) := d_cmp (hK ▸ op_neN hu) ok_neN back_E ha hb (nomark _)
end
end LW
namespace L2
open PySem PySem.Spec PyProof.Rows
end L2
namespace LW
open PySem L2 PyProof.Rows
section
variable {mg : Glob} {X : Cx} {a b : Expr} {pos : Pos} {fa fb : SE}
end
end LW

/-! LwEj: how mirrors that may raise run, told backwards. -/
namespace LW
open PySem L2
section
variable {env : Env} {st : Sto} {f g : SX} {fs : SS} {fe : EX} {fv : SE} {t : SB} {Q : OutX → Sto → Prop} {QE : RX → Sto → Prop} {QS : Out → Sto → Prop} {cn : Str} {i : Nat}
theorem z_xSeq (h : Ok (f env st) fun o s => match o with
    | .o (.nx e) => Ok (g e s) Q
    | o => Q o s) : Ok (xSeq f g env st) Q := by
  obtain ⟨o, s, e, q⟩ := h
  unfold xSeq
  rw [e]
  cases o with
  | o o => cases o with
    | nx e1 => exact q
    | rt d => exact ⟨_, s, rfl, q⟩
    | bk e1 => exact ⟨_, s, rfl, q⟩
    | ct e1 => exact ⟨_, s, rfl, q⟩
  | ex cn d e1 => exact ⟨_, s, rfl, q⟩
theorem z_xIf (h : Ok (t env st) fun b s => if b = true then Ok (f env s) Q else Ok (g env s) Q) : Ok (xIf t f g env st) Q := by
  obtain ⟨b, s, e, q⟩ := h
  unfold xIf
  rw [e]
  cases b with
  | true => exact q
  | false => exact q
theorem z_xRaise (h : Ok (fv env st) fun d s => Q (.ex cn d env) s) : Ok (xRaise cn fv env st) Q := by
  obtain ⟨d, s, e, q⟩ := h
  exact ⟨_, s, by unfold xRaise; rw [e], q⟩
theorem z_xL (h : Ok (fs env st) fun o s => Q (.o o) s) : Ok (xL fs env st) Q := by
  obtain ⟨o, s, e, q⟩ := h
  exact ⟨_, s, by unfold xL; rw [e]; rfl, q⟩
theorem z_xNil (q : Q (.o (.nx env)) st) : Ok (xNil env st) Q := ⟨_, st, rfl, q⟩
theorem z_xDrop (h : Ok (fe env st) fun r s => match r with
    | .ok _ => Q (.o (.nx env)) s
    | .ex cn d => Q (.ex cn d env) s) : Ok (xDrop fe env st) Q := by
  obtain ⟨r, s, e, q⟩ := h
  cases r with
  | ok d => exact ⟨_, s, by unfold xDrop; rw [e], q⟩
  | ex cn d => exact ⟨_, s, by unfold xDrop; rw [e], q⟩
theorem z_xRet (h : Ok (fe env st) fun r s => match r with
    | .ok d => Q (.o (.rt d)) s
    | .ex cn d => Q (.ex cn d env) s) : Ok (xRet fe env st) Q := by
  obtain ⟨r, s, e, q⟩ := h
  cases r with
  | ok d => exact ⟨_, s, by unfold xRet; rw [e], q⟩
  | ex cn d => exact ⟨_, s, by unfold xRet; rw [e], q⟩
theorem z_eCallX {gx : FX} {dd : List D} {fa : SA} (h : Ok (fa env st) fun ds s => Ok (gx (ds ++ dd) s) QE) : Ok (eCallX gx dd fa env st) QE := by
  obtain ⟨ds, s, e, q⟩ := h
  unfold eCallX
  rw [e]
  exact q
theorem z_sTry {sub : Str → Str → Option Bool} {l : List Cl} (h : Ok (f env st) fun o s => match o with
    | .o o => QS o s
    | .ex cn d e1 => Ok (hRun sub cn d l e1 s) QS) : Ok (sTry sub f l env st) QS := by
  obtain ⟨o, s, e, q⟩ := h
  unfold sTry
  rw [e]
  cases o with
  | o o => exact ⟨_, s, rfl, q⟩
  | ex cn d e1 => exact q
end
end LW

/-! LwEk: repr of texts and tuples. -/
namespace LW
open PySem L2 Builtin.Str
end LW

/-! LwFa: a new list as a cell, anywhere in an expression; loops over a cell of any things. -/
namespace LW
open PySem L2 PyProof.Rows
def eCel (f : Fx (List D)) : SE := fun env st => match f env st with
  | some (xs, s1) => some (.cell s1.length, s1 ++ [xs])
  | none => none
section
variable {mg : Glob} {N N' : Prot} {c c' : List Addr} {H H' : Hp} {st st' : Sto} {v : V} {xs : List D}
theorem Wd.cellN {p : Addr} {vs : List V} (W : Wd mg N c H st) (np : N p) (nc : p ∉ c) (hp : H p = some (.lst vs)) (r : RepL mg N c H vs xs) : Wd mg N (c ++ [p]) H (st ++ [xs]) := by
  have hl := W.len
  have tr : Tr N c H N (c ++ [p]) H := ⟨fun _ _ e _ => e, fun a z => .inl z, fun k a e => by rw [List.getElem?_append_left (List.getElem?_eq_some_iff.mp e).1]; exact e, fun _ _ e => e⟩
  refine ⟨by rw [List.length_append, List.length_append, hl]; rfl, fun k a ys h1 h2 => ?_, fun a z => ?_, ?_, W.trk⟩
  · by_cases hk : k < c.length
    · rw [List.getElem?_append_left hk] at h1
      rw [List.getElem?_append_left (by omega)] at h2
      obtain ⟨us, ha, rr⟩ := W.sto k a ys h1 h2
      exact ⟨us, ha, rr.tr tr⟩
    · rw [List.getElem?_append_right (by omega)] at h1 h2
      by_cases e : k - c.length = 0
      · rw [e] at h1
        rw [← hl, e] at h2
        cases h1
        cases h2
        exact ⟨_, hp, .l (r.tr tr)⟩
      · rw [List.getElem?_eq_none (by simp; omega)] at h1
        cases h1
  · rcases List.mem_append.mp z with z | z
    · exact W.cn a z
    · have e : a = p := by simpa using z
      rw [e]; exact np
  · exact List.nodup_append.mpr ⟨W.nd, by simp, fun a ha b hb => by
      have e : b = p := by simpa using hb
      rw [e]
      exact fun z => nc (z ▸ ha)⟩
theorem RN.cel (W : Wd mg N c H st) (x : Ex N c H N' c' H') (W' : Wd mg N' c' H' st') (h : RN mg N c H N' c' H' v xs) : ∃ c'', Ex N c H N' c'' H' ∧ Wd mg N' c'' H' (st' ++ [xs]) ∧ Rep mg N' c'' H' v (.cell st'.length) := by
  obtain ⟨p, vs, rfl, hn, np, nc, hp, r⟩ := h
  refine ⟨c' ++ [p], ⟨x.keep, x.new, x.mono, fun k a e => ?_, fun a z => ?_⟩, W'.cellN np nc hp r, .cell ?_⟩
  · have e' := x.pre k a e
    rw [List.getElem?_append_left (List.getElem?_eq_some_iff.mp e').1]
    exact e'
  · rcases List.mem_append.mp z with z | z
    · exact x.newc a z
    · have e : a = p := by simpa using z
      rw [e]; exact .inr hn
  · rw [← W'.len, List.getElem?_append_right (Nat.le_refl _)]
    simp
end
section
variable {mg : Glob} {X : Cx} {e : Expr} {f : Fx (List D)}
end
/-! ### loops over a cell of any things -/
section
variable {mg : Glob} {N : Prot} {c : List Addr} {H : Hp} {K : PySem.W.Frag}
end
section
variable {mg : Glob} {X : Cx} {tg e : Expr} {fe : SE}
end
section
variable {env : Env} {st : Sto} {fe : SE} {f : Fx (List D)} {Q : D → Sto → Prop} {QI : Src → Sto → Prop}
theorem z_cel (h : Ok (f env st) fun xs s => Q (.cell s.length) (s ++ [xs])) : Ok (eCel f env st) Q := by
  obtain ⟨xs, s, e, q⟩ := h
  exact ⟨_, _, by unfold eCel; rw [e], q⟩
end
end LW

/-! LwFb: classes whose __init__ may raise. -/
namespace LW
open PySem L2 PyProof.Rows
inductive RIX where
  | ok (ns : List Str) (vs : List D) | ex (cn : Str) (d : D)
abbrev FIX := List D → Sto → Option (RIX × Sto)
section
variable {P : Program} {w : World} {K : PySem.W.Frag} {mg : Str → Option Value} {base : Heap}
end
section
variable {mg : Glob} {X : Cx} {W : WX} {k : Nat} {f C : Addr} {fd : FuncData} {ps : List Str} {g : FIX} {n : Nat} {dvs : List V} {ds : List Value} {dd : List D} {x : Str} {p pos : Pos} {e : Expr} {es : List Expr} {fs : SA}
end
end LW

/-! LwFc: short words for classes whose __init__ may raise. -/
namespace LW
open PySem L2 PyProof.Rows
section
variable (P : Program) (w : World) (K : PySem.W.Frag) (mg : Str → Option Value) (base : Heap)
end
section
variable {P : Program} {w : World} {K : PySem.W.Frag} {mg : Str → Option Value} {base : Heap} {k n : Nat} {cn qual : Str} {C : Addr} {st : Stmt} {nm ps : List Str} {body : SX}
end
section
variable {mg : Glob} {X : Cx} {W : WX} {k n : Nat} {C : Addr} {ps : List Str} {g : FIX} {x : Str} {p pos : Pos} {e : Expr} {es : List Expr} {fs : SA}
end
/-! ### forward rules -/
section
variable {env : Env} {st : Sto} {QE : RX → Sto → Prop}
end
end LW

/-! LwFd: xs == [] , the things in xs of any kind. -/
namespace L2
open PySem PySem.Spec PyProof.Rows
def rEqN (K : PySem.W.Frag) : R2 := fun x y H Q => ∃ (a b : Addr) (xs : List V), x = .ref a ∧ y = .ref b ∧ SqL K H a xs ∧ SqL K H b [] ∧ Q (.bl xs.isEmpty) H
theorem op_eqN {X : Cx} (hu : X.A.units < cLine) : OpR X (compareOp .Eq) (rEqN X.K) := by
  intro pins s σ H x y v u Q I rx ry h
  obtain ⟨a, b, xs, rfl, rfl, ha, hb, q⟩ := h
  obtain rfl : v = Value.ref a := rx
  obtain rfl : u = Value.ref b := ry
  obtain ⟨us, r1, p1, _⟩ := I.list ha
  obtain ⟨ws, r2, p2, _⟩ := I.list hb
  cases r2
  cases xs with
  | nil =>
    cases r1
    have rc := SeqAt.RcAt.lists (A := X.A) (e := fun _ => true) (plainL_is p1) (plainL_is p2) rfl hu (fun j h1 h2 => absurd h1 (by simp))
    exact rc X.prog X.w X.xe _ ⟨.bl true, H, I, rfl, q⟩
  | cons y ys =>
    have hz : (us.toArray.size != ([] : List Value).toArray.size) = true := by
      have l := r1.length
      rw [List.size_toArray, ← l]
      simp
    have rc := SeqAt.RcAt.lists_lengths (A := X.A) (plainL_is p1) (plainL_is p2) hz hu
    exact rc X.prog X.w X.xe _ ⟨.bl false, H, I, rfl, q⟩
end L2
namespace LW
open PySem L2 PyProof.Rows
/-- xs == [] -/
def oEqN : D → D → Sto → Option D := fun x y st => match lstR st x, y with
  | some xs, .lst [] => some (.bl xs.isEmpty)
  | _, _ => none
theorem ok_eqN {mg : Glob} : OpOk mg (RE mg) (rEqN mg.K) oEqN := by
  intro N c H st u v x y d Q W p1 p2 e k
  unfold oEqN at e
  split at e
  · rename_i xs hx
    cases e
    obtain ⟨a, us, rfl, ha, r⟩ := RepT.read W p1 hx
    obtain ⟨b, vs, rfl, hb, r'⟩ := RepT.read W p2 (xs := []) rfl
    cases r'
    refine ⟨a, b, us, rfl, rfl, ha, hb, ?_⟩
    have : us.isEmpty = xs.isEmpty := by cases r <;> rfl
    rw [this]
    exact k _ N c H Ex.refl W (.bl _)
  · cases e
section
variable {mg : Glob} {X : Cx} {a b : Expr} {pos : Pos} {fa fb : SE}
theorem d_eqN (hu : X.A.units < cLine) (ha : PE X a (tP mg fa)) (hb : PE X b (tP mg fb)) (hK : X.K = mg.K := by rfl) : PE X (.Compare a [.Eq] [b] pos) (tE mg (eOp oEqN fa fb)) := d_cmp (hK ▸ op_eqN hu) ok_eqN back_E ha hb (nomark _)
end
end LW

/-! LwGa: dicts in cells: made, written, cleared. -/
namespace LW
open PySem L2 PyProof.Rows
section
variable {mg : Glob} {N N' : Prot} {c c' : List Addr} {H H' : Hp} {st st' : Sto} {v : V} {xs : List D}
theorem Wd.cellO {p : Addr} {o : HO} (W : Wd mg N c H st) (np : N p) (nc : p ∉ c) (hp : H p = some o) (r : CRep mg N c H o xs) : Wd mg N (c ++ [p]) H (st ++ [xs]) := by
  have hl := W.len
  have tr : Tr N c H N (c ++ [p]) H := ⟨fun _ _ e _ => e, fun a z => .inl z, fun k a e => by rw [List.getElem?_append_left (List.getElem?_eq_some_iff.mp e).1]; exact e, fun _ _ e => e⟩
  refine ⟨by rw [List.length_append, List.length_append, hl]; rfl, fun k a ys h1 h2 => ?_, fun a z => ?_, ?_, W.trk⟩
  · by_cases hk : k < c.length
    · rw [List.getElem?_append_left hk] at h1
      rw [List.getElem?_append_left (by omega)] at h2
      obtain ⟨us, ha, rr⟩ := W.sto k a ys h1 h2
      exact ⟨us, ha, rr.tr tr⟩
    · rw [List.getElem?_append_right (by omega)] at h1 h2
      by_cases e : k - c.length = 0
      · rw [e] at h1
        rw [← hl, e] at h2
        cases h1
        cases h2
        exact ⟨_, hp, r.tr tr⟩
      · rw [List.getElem?_eq_none (by simp; omega)] at h1
        cases h1
  · rcases List.mem_append.mp z with z | z
    · exact W.cn a z
    · have e : a = p := by simpa using z
      rw [e]; exact np
  · exact List.nodup_append.mpr ⟨W.nd, by simp, fun a ha b hb => by
      have e : b = p := by simpa using hb
      rw [e]
      exact fun z => nc (z ▸ ha)⟩
theorem Ex.cellO {p : Addr} (x : Ex N c H N' c' H') (hn : H p = none) : Ex N c H N' (c' ++ [p]) H' := ⟨x.keep, x.new, x.mono, fun k a e => by
    have e' := x.pre k a e
    rw [List.getElem?_append_left (List.getElem?_eq_some_iff.mp e').1]
    exact e', fun a z => by
    rcases List.mem_append.mp z with z | z
    · exact x.newc a z
    · have e : a = p := by simpa using z
      rw [e]; exact .inr hn⟩
theorem RD.cel {d : DK} (W : Wd mg N c H st) (x : Ex N c H N' c' H') (W' : Wd mg N' c' H' st') (h : RD mg N c H N' c' H' v d) : ∃ c'', Ex N c H N' c'' H' ∧ Wd mg N' c'' H' (st' ++ [unC d]) ∧ Rep mg N' c'' H' v (.dcl st'.length) := by
  obtain ⟨p, kvs, rfl, hn, np, nc, hp, hm, r⟩ := h
  refine ⟨c' ++ [p], x.cellO hn, ?_, .dcl ?_⟩
  · have := W'.cellO np nc hp (CRep.k r)
    rw [hm] at this
    exact this
  · rw [← W'.len, List.getElem?_append_right (Nat.le_refl _)]
    simp
end
/-- a new dict as a cell -/
def eDcl (f : Fx DK) : SE := fun env st => match f env st with
  | some (d, s1) => some (.dcl s1.length, s1 ++ [unC d])
  | none => none
section
variable {mg : Glob} {X : Cx} {e : Expr} {f : Fx DK}
theorem d_dcl (h : PE X e (tD mg f)) : PE X e (tE mg (eDcl f)) := pe_weak h fun σ H Q ⟨E, N, c, env, st, d, st', R, q, k⟩ => by
  unfold eDcl at q
  split at q
  · rename_i xs s1 q1
    cases q
    refine ⟨E, N, c, env, st, xs, s1, R, q1, fun v N' c' H' x W r => ?_⟩
    obtain ⟨c'', x2, W2, r2⟩ := r.cel R.wd x W
    exact k v N' c'' H' x2 W2 r2
  · cases q
end
/-- d[k] = e, d a dict in a cell -/
def sPutDC (fo fk fe : SE) : SS := fun env st => match fe env st with
  | some (d, s1) => match fo env s1 with
    | some (.dcl k, s2) => match fk env s2 with
      | some (y, s3) => match keyD y with
        | some kk => match dcU s3 k with
          | some p => if p.1.length < 1000000 then some (.nx env, s3.set k (unC (putKD p kk d))) else none
          | none => none
        | none => none
      | none => none
    | _ => none
  | none => none
/-- d.clear() -/
def sClrC (fo : SE) : SS := fun env st => match fo env st with
  | some (.dcl k, s1) => match dcU s1 k with
    | some _ => some (.nx env, s1.set k (unC ([], [])))
    | none => none
  | _ => none
section
variable {mg : Glob} {X : Cx} {e o ek : Expr} {pos apos cpos tpos : Pos} {fe fo fk : SE}
theorem s_putDC (hu : X.A.units + 1 < cLine) (he : PE X e (tE mg fe)) (ho : PE X o (tE mg fo)) (hj : PE X ek (tP mg fk)) (hs : swapsWith e (some (.Subscript o ek tpos)) pos.line X.env = pure false := by rfl) :
    PS X (.Assign [.Subscript o ek tpos] e pos) (tS mg (sPutDC fo fk fe)) :=
  ps_weak (ps_dput hu ho hj he hs) fun De σ H h => by
    obtain ⟨E, N, c, env, st, o, st', R, q, p⟩ := tS_def.mp h
    unfold sPutDC at q
    split at q
    · rename_i d s1 q1
      split at q
      · rename_i k s2 q2
        split at q
        · rename_i y s3 q3
          split at q
          · rename_i kk hk
            split at q
            · rename_i pp hx
              split at q
              · rename_i hl
                cases q
                refine ⟨E, N, c, env, st, d, s1, R, q1, fun v N1 c1 H1 x1 W1 r1 => ?_⟩
                refine ⟨E, N1, c1, env, s1, _, s2, R.ex x1 W1, q2, fun w N2 c2 H2 x2 W2 r2 => ?_⟩
                have x12 := x1.trans x2 R.wd
                cases r2 with
                | dcl hc =>
                  rename_i a
                  refine ⟨E, N2, c2, env, s2, _, s3, R.ex x12 W2, q3, fun z N3 c3 H3 x3 W3 r3 => ?_⟩
                  have x13 := x12.trans x3 R.wd
                  have R3 := R.ex x13 W3
                  have hk3 := x3.pre k a hc
                  obtain ⟨kvs, hb, hm, r4⟩ := W3.dcU hk3 hx
                  have rv : Rep mg N3 c3 H3 v d := Rep.tr (x3.tr W2) (Rep.tr (x2.tr W1) r1)
                  obtain ⟨m1, m2⟩ := put_rel (k := kk) rv r4
                  have em : (kvs.map (·.1), pp.2) = pp := by rw [hm]
                  rw [em] at m1 m2
                  have cr := CRep.k m2
                  rw [m1] at cr
                  have wr := R3.writeCO hk3 cr
                  have ew := r3.key hk
                  subst ew
                  refine ⟨a, _, rfl, DPut.k hb ?_, p N3 c3 σ _ ((x13.sx R.wd W3).trans wr.2) wr.1⟩
                  have : kvs.length = pp.1.length := by rw [← hm, List.length_map]
                  rw [this]
                  exact sz7 hl
              · cases q
            · cases q
          · cases q
        · cases q
      · cases q
    · cases q
end
end LW

/-! LwGb: walks over the keys of a dict in a cell. -/
namespace LW
open PySem L2 PyProof.Rows
open Classical
noncomputable section
end
section
variable {mg : Glob} {N N' : Prot} {c c' : List Addr} {H H' : Hp} {st st' : Sto}
end
section
variable {mg : Glob} {X : Cx} {tg : Expr} {pos : Pos}
variable {eltE : Expr} {ifs : List Expr} {scope : Scope} {own : List (Str × Nat)} {asg : D → Env → Option Env} {cond : SB} {elt : SE} {g : TG} {is : List Nat}
end
end LW
namespace LW
open PySem L2 PyProof.Rows
open Classical
section
variable {mg : Glob} {X : Cx} {tg : Expr} {body : List Stmt} {pos : Pos} {fb : SS} {asg : D → Env → Option Env} {g : TG} {is : List Nat}
end
/-! ### how mirrors run -/
section
variable {asg : D → Env → Option Env} {cond : SB} {elt : SE} {env0 : Env} {st : Sto} {vs : List Nat} {QL : List D → Sto → Prop} {i k : Nat} {p : DK} {fb : SS} {QO : Out → Sto → Prop}
theorem dcU_of {st : Sto} {k : Nat} {p : DK} (h : st[k]? = some (unC p)) : dcU st k = some p := by
  unfold dcU
  rw [h]
  rfl
theorem dcG_of {st : Sto} {k : Nat} {p : DK} (h : st[k]? = some (unC p)) : dcG st k = some p := by
  unfold dcG
  rw [h]
  rfl
end
end LW

/-! LwGc: == and != of equal things whatever the order of their dicts' keys, lists and dicts in cells too. -/
namespace LW
open PySem L2 PyProof.Rows
/-- two lists, two tuples or two dicts whose items are alike by F -/
def RefR (K : PySem.W.Frag) (H : Hp) (F : V → V → Prop) (x y : V) : Prop :=
  (∃ a b xs ys, x = .ref a ∧ y = .ref b ∧ SqL K H a xs ∧ SqL K H b ys ∧ Paired F xs ys) ∨
    ∃ a b ks ls, x = .ref a ∧ y = .ref b ∧ Rd H a (.dK ks) ∧ Rd H b (.dK ls) ∧ ks.length = ls.length ∧ ∀ p ∈ ks, ∃ u, valV ls p.1 = some u ∧ F p.2 u
theorem RefR.eqY {K : PySem.W.Frag} {H : Hp} {n : Nat} {x y : V} (h : RefR K H (EqY K H n) x y) : EqY K H (n + 1) x y := by
  rcases h with h | h
  · exact .inr (.inl h)
  · exact .inr (.inr (.inr h))
def rNeZ (K : PySem.W.Frag) : R2 := fun x y H Q => ∃ n, n ≤ 60 ∧ RefR K H (EqY K H n) x y ∧ Q (.bl false) H
theorem dicts_ne {X : Cx} {A : Around} {s : Shared} {a b : Addr} {ka kb : List (Key × Value)} {r : Bool} (ha : (a == sysModules) = false) (hb : (b == sysModules) = false)
    (da : s.heap.DictOf (mixKind X.prog X.w) a ka) (db : s.heap.DictOf (mixKind X.prog X.w) b kb) (hu : A.units < cLine) (hits : ka.length = kb.length → PySem.W.KeqHitsP X.prog X.w A.in1 s kb ka r) (E Q : Value → Shared → Prop) (h : Q (.bool (!(ka.length == kb.length && r))) s) : wpAny (model X.prog X.w) A (richCompare .NotEq (.ref a) (.ref b)) Q E s := by
  refine wpAny_richCompare_same_room (op := .NotEq) da.typeIs db.typeIs PySem.F.slot_dict_ne (wpAny_call_entry PySem.F.slot_dict_ne da.typeIs PySem.F.entry_dict_ne ?_ (PySem.F.args_dict_ne_2 _ _)) hu
  show wpAny _ _ (Builtin.Dict.dictSlotArgs "__ne__" ⟨[.ref a, .ref b], []⟩ >>= _) _ _ s
  refine wpAny_bind ?_
  unfold Builtin.Dict.dictSlotArgs
  refine wpAny_bind (wpAny_notOrdered_dict da.typeIs ?_)
  show wpAny _ _ (pure (Value.ref a, Value.ref b)) _ _ s
  refine wpAny_pure ?_
  refine wpAny_bind (wpAny_isInstance (T := "dict") db.typeIs PySem.F.sub_dict_dict ?_)
  simp only [Bool.not_true, Bool.false_eq_true, if_false]
  refine wpAny_bind (wpAny_pure (wpAny_bind (wpAny_pure ?_)))
  refine wpAny_bind (PySem.W.samePairsP ha hb da db hits ?_)
  refine wpAny_pure ⟨_, rfl, ?_, ?_⟩
  · exact fun x => nomatch x
  · simpa using h
section
variable {X : Cx}
theorem op_neZ (hu : X.A.units + 64 < cLine) : OpR X (compareOp .NotEq) (rNeZ X.K) := by
  intro pins s σ H x y v u Q I rx ry h
  obtain ⟨n, hn, h, q⟩ := h
  have ih := eqY_run I n X.A.in1 (by show X.A.units + 1 + n < cLine; omega)
  rcases h with ⟨a, b, xs, ys, rfl, rfl, ha, hb, hp⟩ | ⟨a, b, ks, ls, rfl, rfl, ha, hb, hl, hp⟩
  · cases (show v = Value.ref a from rx)
    cases (show u = Value.ref b from ry)
    obtain ⟨us, r1, p1, _⟩ := I.list ha
    obtain ⟨ws, r2, p2, _⟩ := I.list hb
    have hz : us.toArray.size = ws.toArray.size := by
      rw [List.size_toArray, List.size_toArray, ← r1.length, ← r2.length]
      exact Paired.length hp
    refine SeqAt.lw_ne p1.isList p2.isList hz (by omega) (fun j h1 h2 => ?_) _ _ ⟨.bl false, H, I, rfl, q⟩
    have k := items_run ih hp r1 r2 j (by simpa using h1) (by simpa using h2)
    simpa using k
  · cases (show v = Value.ref a from rx)
    cases (show u = Value.ref b from ry)
    obtain ⟨_, ya, va, ra, da⟩ := (show ObjOk X.prog X.w H s.heap a (.dK ks) from ha.ok I.hok)
    obtain ⟨_, yb, vb, rb, db⟩ := (show ObjOk X.prog X.w H s.heap b (.dK ls) from hb.ok I.hok)
    refine dicts_ne (r := true) ya yb da db (by omega) (fun _ => hits_run ih rb ra hp) _ _ ?_
    have e : va.length = vb.length := by rw [← ra.length, ← rb.length]; exact hl
    rw [show (va.length == vb.length && true) = true from by rw [e]; simp]
    exact ⟨.bl false, H, I, rfl, q⟩
end
/-! ### equal data, with a store -/
def allKD (f : D → D → Bool) (q : DK) : List Key → List D → Bool
  | [], [] => true
  | k :: ks, d :: ds => (match getD q.1 q.2 k with
    | some e => f d e
    | none => false) && allKD f q ks ds
  | _, _ => false
def refZ (st : Sto) (f : D → D → Bool) (x y : D) : Bool := match lstR st x, lstR st y with
  | some xs, some ys => all2 f xs ys
  | _, _ => match dicG st x, dicG st y with
    | some p, some q => decide (p.1.length = q.1.length) && allKD f q p.1 p.2
    | _, _ => false
def eqZ (st : Sto) : Nat → D → D → Bool
  | 0 => fun _ _ => false
  | n + 1 => fun x y => match x, y with
    | .int a, .int b => decide (a = b)
    | .str a, .str b => decide (a = b)
    | .bl a, .bl b => decide (a = b)
    | .non, .non => true
    | .tup xs, .tup ys => all2 (eqZ st n) xs ys
    | x, y => refZ st (eqZ st n) x y
section
variable {mg : Glob} {N : Prot} {c : List Addr} {H : Hp} {st : Sto}
theorem all2_relF {f : D → D → Bool} {F : V → V → Prop} (ih : ∀ (x y : D) (u v : V), f x y = true → Rep mg N c H u x → Rep mg N c H v y → F u v) : ∀ {xs ys : List D} {us vs : List V}, all2 f xs ys = true → RepL mg N c H us xs → RepL mg N c H vs ys → Paired F us vs
  | [], [], _, _, _, .nil, .nil => .nil
  | x :: xs, y :: ys, _, _, e, .cons h t, .cons h' t' => by
    unfold all2 at e
    rw [Bool.and_eq_true] at e
    exact .cons (ih _ _ _ _ e.1 h h') (all2_relF ih e.2 t t')
  | [], _ :: _, _, _, e, _, _ => by cases e
  | _ :: _, [], _, _, e, _, _ => by cases e
theorem allKD_rel {f : D → D → Bool} {F : V → V → Prop} (ih : ∀ (x y : D) (u v : V), f x y = true → Rep mg N c H u x → Rep mg N c H v y → F u v) {lvs : List (Key × V)} {q : DK} (hq : lvs.map (·.1) = q.1) (rq : RepL mg N c H (lvs.map (·.2)) q.2) :
    ∀ {kvs : List (Key × V)} {ds : List D}, allKD f q (kvs.map (·.1)) ds = true → RepL mg N c H (kvs.map (·.2)) ds → ∀ p ∈ kvs, ∃ u, valV lvs p.1 = some u ∧ F p.2 u
  | [], _, _, _, p, hp => by cases hp
  | kv :: kvs, _, e, .cons h t, p, hp => by
    rw [List.map_cons] at e
    unfold allKD at e
    rw [Bool.and_eq_true] at e
    obtain ⟨e1, e2⟩ := e
    rcases List.mem_cons.mp hp with rfl | hp
    · split at e1
      · rename_i d' hg
        rw [← hq] at hg
        obtain ⟨v, hv, rv⟩ := get_rel rq hg
        exact ⟨v, hv, ih _ _ _ _ e1 h rv⟩
      · cases e1
    · exact allKD_rel ih hq rq e2 t p hp
theorem refZ_rel (W : Wd mg N c H st) {f : D → D → Bool} {F : V → V → Prop} (ih : ∀ (x y : D) (u v : V), f x y = true → Rep mg N c H u x → Rep mg N c H v y → F u v) {x y : D} {u v : V} (e : refZ st f x y = true) (hx : RepT mg N c H u x) (hy : RepT mg N c H v y) : RefR mg.K H F u v := by
  unfold refZ at e
  split at e
  · rename_i xs ys h1 h2
    obtain ⟨a, us, rfl, ha, r⟩ := RepT.read W hx h1
    obtain ⟨b, vs, rfl, hb, r'⟩ := RepT.read W hy h2
    exact .inl ⟨a, b, us, vs, rfl, rfl, ha, hb, all2_relF ih e r r'⟩
  · split at e
    · rename_i p q h1 h2
      rw [Bool.and_eq_true] at e
      obtain ⟨e1, e2⟩ := e
      have e1 := of_decide_eq_true e1
      obtain ⟨a, kvs, rfl, ha, hm, r⟩ := RepT.dicG W hx h1
      obtain ⟨b, lvs, rfl, hb, hm', r'⟩ := RepT.dicG W hy h2
      rw [← hm] at e2
      rw [← hm, ← hm', List.length_map, List.length_map] at e1
      exact .inr ⟨a, b, kvs, lvs, rfl, rfl, ha, hb, e1, allKD_rel ih hm' r' e2 r⟩
    · cases e
theorem eqZ_rel (W : Wd mg N c H st) : ∀ (n : Nat) (x y : D) (u v : V), eqZ st n x y = true → Rep mg N c H u x → Rep mg N c H v y → EqY mg.K H n u v
  | 0, _, _, _, _, e, _, _ => by cases e
  | n + 1, x, y, u, v, e, hx, hy => by
    unfold eqZ at e
    split at e
    · cases hx; cases hy; exact .inl ⟨by rw [of_decide_eq_true e], rfl⟩
    · cases hx; cases hy; exact .inl ⟨by rw [of_decide_eq_true e], rfl⟩
    · cases hx; cases hy; exact .inl ⟨by rw [of_decide_eq_true e], rfl⟩
    · cases hx; cases hy; exact .inl ⟨rfl, rfl⟩
    · obtain ⟨a, us, rfl, ha, r⟩ := RepT.tup (.inl hx)
      obtain ⟨b, vs, rfl, hb, r'⟩ := RepT.tup (.inl hy)
      exact .inr (.inr (.inl ⟨a, b, us, vs, rfl, rfl, SqT.of ha, SqT.of hb, all2_relF (eqZ_rel W n) e r r'⟩))
    · exact (refZ_rel W (eqZ_rel W n) e (.inl hx) (.inl hy)).eqY
end
def oEqZ (neg : Bool) : D → D → Sto → Option D := fun x y st => if refZ st (eqZ st 40) x y = true then some (.bl (!neg)) else none
theorem ok_neZ {mg : Glob} : OpOk mg (RE mg) (rNeZ mg.K) (oEqZ true) := by
  intro N c H st u v x y d Q W p1 p2 e k
  unfold oEqZ at e
  split at e
  · rename_i h
    cases e
    exact ⟨40, by decide, refZ_rel W (eqZ_rel W 40) h p1 p2, k _ N c H Ex.refl W (.bl _)⟩
  · cases e
section
variable {mg : Glob} {X : Cx} {a b : Expr} {pos : Pos} {fa fb : SE}
theorem d_neZ (hu : X.A.units + 64 < cLine) (ha : PE X a (tP mg fa)) (hb : PE X b (tP mg fb)) (hK : X.K = mg.K := by rfl) : PE X (.Compare a [.NotEq] [b] pos) (tE mg (eOp (oEqZ true) fa fb)) := d_cmp (hK ▸ op_neZ hu) ok_neZ back_E ha hb (nomark _)
end
end LW

/-! LwGd: while; len(d), list(d), dict(d) of a dict of the frame's own; len(set(list of texts)). -/
namespace LW
open PySem L2 PySem.Spec PyProof.Rows
/-! ### while, at most n turns -/
section
variable {mg : Glob} {X : Cx} {c : Expr} {body : List Stmt} {pos : Pos} {cond : SB} {fb : SS} {n : Nat}
end
section
variable {cond : SB} {body : SS} {env : Env} {st : Sto} {n : Nat} {QS : Out → Sto → Prop}
end
/-! ### len(d), list(d) -/
def gLenD : List D → Sto → Option D := fun ds st => match ds with
  | [x] => (match dicG st x with
    | some p => some (.int p.1.length)
    | none => none)
  | _ => none
def rLenD : List V → Hp → VK → Prop := fun xs H Q => ∃ (a : Addr) (kvs : List (Key × V)), xs = [.ref a] ∧ Rd H a (.dK kvs) ∧ Q (.int kvs.length) H
theorem call_lenD {X : Cx} : CallR X (.builtin "len") rLenD := by
  intro pins s σ H xs us Q I r q
  obtain ⟨a, kvs, ex, hd, q⟩ := q
  subst ex
  obtain ⟨u, eu, rx⟩ := vals1 r
  subst eu
  cases rx
  exact L2.d_len I hd fun t s' I' => ⟨.int _, H, I', ⟨_, rfl⟩, q⟩
theorem ok_lenD {mg : Glob} : BiOk mg (RE mg) rLenD gLenD := by
  intro N c H st us ds d Q W p q k
  unfold gLenD at q
  split at q
  · rename_i x
    split at q
    · rename_i pp hp
      cases q
      obtain ⟨u, rfl, h⟩ := tl1 p
      obtain ⟨a, kvs, rfl, ha, hn, r⟩ := RepT.dicG W h hp
      refine ⟨a, kvs, rfl, ha, ?_⟩
      have : kvs.length = pp.1.length := by rw [← hn, List.length_map]
      rw [this]
      exact k _ N c H Ex.refl W (.int _)
    · cases q
  · cases q
section
variable {mg : Glob} {X : Cx} {e : Expr} {es : List Expr} {p pos : Pos} {f : SA}
theorem d_lenD (hm : X.mg "len" = none) (ha : PA X (e :: es) (tAP mg f)) (hg : Gl X "len" := by rfl) (he : starEach (e :: es) X.env = (false, eval e X.env) :: starEach es X.env := by rfl) (hpl : (backTo pos (starEach es X.env)).any (·.1) = false := by rfl) : PE X (.Call (.Name "len" p) (e :: es) [] pos) (tE mg (eBi gLenD f)) :=
  d_bi call_lenD ok_lenD back_E hg hm PySem.boot_len ha (by decide) (by decide) he hpl
end
/-! ### dict(x), x a dict of the frame's own -/
def eDictO (i : Nat) : Fx DK := fun env st => match env[i]? with
  | some (.ownD ks ds) => some ((ks, ds), st)
  | _ => none
/-! ### len(set(list of texts)) -/
def eLenSN (fa : SE) : SE := fun env st => match fa env st with
  | some (x, s1) => (match lstS s1 x with
    | some zs => if zs.length < 64 then some (.int (sortN zs).length, s1) else none
    | none => none)
  | none => none
end LW

/-! LwGe: x = [.. for .. in .. for .. in ..]. -/
namespace LW
open PySem L2 PyProof.Rows
section
variable {mg : Glob} {X : Cx} {fi fi2 : Fx Src} {asg asg2 : D → Env → Option Env} {cond cond2 : SB} {elt : SE} {g g2 : TG} {is is2 vs2 : List Nat} {eltE tg iter tg1 iter1 : Expr} {ifs ifs1 : List Expr} {scope : Scope} {own : List (Str × Nat)} {pos : Pos}
end
end LW

/-! LwGf: how mirrors with dicts in cells run. -/
namespace LW
open PySem L2
@[reducible] def AsDc : D → (Nat → Prop) → Prop
  | .dcl b, Q => Q b
  | _, _ => False
theorem AsDc.of {d : D} {Q : Nat → Prop} (h : AsDc d Q) : ∃ b, d = .dcl b ∧ Q b := by
  cases d <;> first | exact ⟨_, rfl, h⟩ | exact h.elim
section
variable {env : Env} {st : Sto} {Q : D → Sto → Prop} {QB : Bool → Sto → Prop} {QK : DK → Sto → Prop} {QL : List D → Sto → Prop} {QS : Out → Sto → Prop} {i : Nat} {d : D} {fa fb fe fo fk : SE} {f : Fx DK} {fs : SA}
theorem z_dcl (h : Ok (f env st) fun d s1 => Q (.dcl s1.length) (s1 ++ [unC d])) : Ok (eDcl f env st) Q := by
  obtain ⟨d, s1, e1, h⟩ := h
  exact ⟨_, _, by unfold eDcl; rw [e1], h⟩
theorem z_putDC (h : Ok (fe env st) fun d s1 => Ok (fo env s1) fun o s2 => AsDc o fun k => Ok (fk env s2) fun y s3 => ∃ kk p, keyD y = some kk ∧ s3[k]? = some (unC p) ∧ p.1.length < 1000000 ∧ QS (.nx env) (s3.set k (unC (putKD p kk d)))) : Ok (sPutDC fo fk fe env st) QS := by
  obtain ⟨d, s1, e1, o, s2, e2, h⟩ := h
  obtain ⟨k, rfl, y, s3, e3, kk, p, e4, e5, l, q⟩ := h.of
  exact ⟨_, _, by unfold sPutDC; rw [e1]; dsimp only; rw [e2]; dsimp only; rw [e3]; dsimp only; rw [e4]; dsimp only; rw [dcU_of e5]; dsimp only; rw [if_pos l], q⟩
theorem z_clrC (h : Ok (fo env st) fun o s1 => AsDc o fun k => ∃ p, s1[k]? = some (unC p) ∧ QS (.nx env) (s1.set k (unC ([], [])))) : Ok (sClrC fo env st) QS := by
  obtain ⟨o, s1, e1, h⟩ := h
  obtain ⟨k, rfl, p, e2, q⟩ := h.of
  exact ⟨_, _, by unfold sClrC; rw [e1]; dsimp only; rw [dcU_of e2], q⟩
theorem u_eqZ {neg : Bool} {x y : D} {Q : D → Prop} (h : refZ st (eqZ st 40) x y = true) (q : Q (.bl (!neg))) : Od (oEqZ neg x y st) Q := ⟨_, by unfold oEqZ; rw [if_pos h], q⟩
theorem z_dictO {ks : List Key} {ds : List D} (e : env[i]? = some (.ownD ks ds)) (q : QK (ks, ds) st) : Ok (eDictO i env st) QK := ⟨_, st, by unfold eDictO; rw [e], q⟩
theorem z_lenSN (h : Ok (fe env st) fun x s => ∃ zs, lstS s x = some zs ∧ zs.length < 64 ∧ Q (.int (sortN zs).length) s) : Ok (eLenSN fe env st) Q := by
  obtain ⟨x, s1, e1, zs, e2, l, q⟩ := h
  exact ⟨_, s1, by unfold eLenSN; rw [e1]; dsimp only; rw [e2]; dsimp only; rw [if_pos l], q⟩
theorem z_lc2 {fi fi2 : Fx Src} {asg asg2 : D → Env → Option Env} {cond cond2 : SB} {elt : SE} {vs vs2 : List Nat} (h : Ok (fi env st) fun xs s1 => Ok (comp2M xs.2 asg cond fi2 asg2 cond2 elt vs2 (wipeE env vs) xs.1 s1) fun ys s => ys.length ≤ 1000000 ∧ QL ys s) : Ok (lComp2 fi asg cond fi2 asg2 cond2 elt vs vs2 env st) QL := by
  obtain ⟨x, s1, e1, ys, s, e2, l, q⟩ := h
  exact ⟨_, _, by unfold lComp2; rw [e1]; dsimp only; rw [e2]; dsimp only; rw [if_pos l], q⟩
/-- what stays of the store -/
theorem sto_app {st ys : Sto} {k : Nat} {x : List D} (h : st[k]? = some x) : (st ++ ys)[k]? = some x := by
  rw [List.getElem?_append_left (List.getElem?_eq_some_iff.mp h).1]
  exact h
theorem sto_last {st : Sto} {x : List D} : (st ++ [x])[st.length]? = some x := by
  rw [List.getElem?_append_right (Nat.le_refl _), Nat.sub_self]
  rfl
theorem sto_set {st : Sto} {x y : List D} : (st ++ [x]).set st.length y = st ++ [y] := by
  rw [List.set_append_right _ _ (Nat.le_refl _), Nat.sub_self]
  rfl
end
end LW

/-! LwGg: d.get(k, x), list(d.items()) of a dict in a cell. -/
namespace LW
open PySem L2 PyProof.Rows
section
variable {mg : Glob} {X : Cx} {o e f : Expr} {apos cpos pos p : Pos} {fo fk fx : SE}
end
section
variable {mg : Glob} {X : Cx} {e : Expr} {apos cpos pos p : Pos} {fo : SE}
end
section
variable {env : Env} {st : Sto} {Q : D → Sto → Prop} {QL : List D → Sto → Prop} {fo fk fx : SE}
end
end LW

/-! LwHa: instances in cells: made, read, written, their methods; methods with defaults. -/
namespace LW
open PySem L2 PyProof.Rows
/-- the instance in a cell -/
def ocG (st : Sto) (k : Nat) : Option (Str × List Str × List D) := match st[k]? with
  | some [.dit [_] [], .obj cn ns vs] => some (cn, ns, vs)
  | _ => none
abbrev iC (cn : Str) (ns : List Str) (vs : List D) : List D := [tagD, .obj cn ns vs]
theorem ocG_of {st : Sto} {k : Nat} {cn : Str} {ns : List Str} {vs : List D} (e : st[k]? = some (iC cn ns vs)) : ocG st k = some (cn, ns, vs) := by
  unfold ocG
  rw [e]
  rfl
theorem Wd.ocG {mg : Glob} {N : Prot} {c : List Addr} {H : Hp} {st : Sto} (W : Wd mg N c H st) {k : Nat} {a : Addr} {cn : Str} {ns : List Str} {vs : List D} (hc : c[k]? = some a) (e : ocG st k = some (cn, ns, vs)) :
    ∃ C dx fs, H a = some (.ins C dx fs) ∧ mg.mg cn = some (.ref C) ∧ fs.map (·.1) = ns ∧ RepL mg N c H (fs.map (·.2)) vs := by
  unfold LW.ocG at e
  split at e
  · rename_i h
    cases e
    obtain ⟨o, ha, r⟩ := W.sto k a _ hc h
    cases r with
    | l r => have := r.noTag; cases this
    | i hC r => exact ⟨_, _, _, ha, hC, rfl, r⟩
  · cases e
/-! ### made -/
def eMakeC (cn : Str) (g : FI) (dd : List D) (f : SA) : SE := fun env st => match f env st with
  | none => none
  | some (ds, s1) => match g (ds ++ dd) s1 with
    | none => none
    | some ((ns, fds), s2) => some (.ocl s2.length, s2 ++ [iC cn ns fds])
section
variable {mg : Glob} {X : Cx} {k : Nat} {f C : Addr} {fd : FuncData} {ps : List Str} {g : FI} {n : Nat} {dvs : List V} {ds : List Value} {dd : List D} {x m : Str} {p pos apos : Pos} {e o : Expr} {es : List Expr} {fs : SA} {fo : SE}
end
/-! ### methods -/
def eMethC (cn m : Str) (g : FM) (dd : List D) (fo : SE) (f : SA) : SE := fun env st => match fo env st with
  | some (.ocl k, s1) => match ocG s1 k with
    | some (cn', ns, _) => if cn' = cn ∧ ¬ m ∈ ns then (match f env s1 with
        | none => none
        | some (ds, s2) => g (.ocl k :: (ds ++ dd)) s2) else none
    | none => none
  | _ => none
section
variable {mg : Glob} {X : Cx} {k : Nat} {f C : Addr} {fd : FuncData} {ps : List Str} {g : FM} {n : Nat} {dvs : List V} {ds : List Value} {dd : List D} {x m : Str} {p pos apos : Pos} {e o : Expr} {es : List Expr} {fs : SA} {fo : SE}
/-! ### fields -/
def eFldC (cn m : Str) (fo : SE) : SE := fun env st => match fo env st with
  | some (.ocl k, s1) => match ocG s1 k with
    | some (cn', ns, vs) => if cn' = cn then (match fldD m ns vs with
        | some d => some (d, s1)
        | none => none) else none
    | none => none
  | _ => none
/-- o.m = e -/
def sFldC (cn m : Str) (fo fe : SE) : SS := fun env st => match fe env st with
  | some (d, s1) => match fo env s1 with
    | some (.ocl k, s2) => match ocG s2 k with
      | some (cn', ns, vs) => if cn' = cn ∧ ns.length < 1000 then some (.nx env, s2.set k (iC cn' (putD m d ns vs).1 (putD m d ns vs).2)) else none
      | none => none
    | _ => none
  | none => none
end
/-! ### methods with defaults -/
section
variable (P : Program) (w : World) (K : PySem.W.Frag) (mg : Str → Option Value) (base : Heap)
end
section
variable {P : Program} {w : World} {K : PySem.W.Frag} {mg : Str → Option Value} {base : Heap} {k : Nat} {x m qual cn : Str} {st : Stmt} {nm ps : List Str} {body : SS} {C : Addr}
end
/-! ### short words -/
section
variable {X : Cx} {k : Nat} {C : Addr} {ps : List Str} {g : FM} {gi : FI} {n : Nat} {dvs : List V} {dd : List D} {x m cn : Str} {p pos apos : Pos} {e o a b : Expr} {es : List Expr} {fs : SA} {fo fa fb : SE}
end
/-! ### told backwards -/
@[reducible] def AsOc : D → (Nat → Prop) → Prop
  | .ocl b, Q => Q b
  | _, _ => False
theorem AsOc.of {d : D} {Q : Nat → Prop} (h : AsOc d Q) : ∃ b, d = .ocl b ∧ Q b := by
  cases d <;> first | exact ⟨_, rfl, h⟩ | exact h.elim
section
variable {env : Env} {st : Sto} {Q : D → Sto → Prop} {QS : Out → Sto → Prop} {fe fo : SE} {fs : SA} {cn m : Str} {dd : List D}
theorem z_makeC {g : FI} (h : Ok (fs env st) fun ds s => Ok (g (ds ++ dd) s) fun r s2 => Q (.ocl s2.length) (s2 ++ [iC cn r.1 r.2])) : Ok (eMakeC cn g dd fs env st) Q := by
  obtain ⟨x, s1, e1, r, s2, e2, q⟩ := h
  exact ⟨_, _, by unfold eMakeC; rw [e1]; dsimp only; rw [e2], q⟩
theorem z_methC {g : FM} (h : Ok (fo env st) fun o s1 => AsOc o fun k => ∃ ns vs, s1[k]? = some (iC cn ns vs) ∧ ¬ m ∈ ns ∧ Ok (fs env s1) fun ds s2 => Ok (g (.ocl k :: (ds ++ dd)) s2) Q) : Ok (eMethC cn m g dd fo fs env st) Q := by
  obtain ⟨o, s1, e1, h⟩ := h
  obtain ⟨k, rfl, ns, vs, ek, hm, ds, s2, e2, d, s3, e3, q⟩ := h.of
  exact ⟨d, s3, by unfold eMethC; rw [e1]; dsimp only; rw [ocG_of ek]; dsimp only; rw [if_pos ⟨rfl, hm⟩, e2]; exact e3, q⟩
theorem z_fldC (h : Ok (fo env st) fun o s1 => AsOc o fun k => ∃ ns vs, s1[k]? = some (iC cn ns vs) ∧ Od (fldD m ns vs) fun d => Q d s1) : Ok (eFldC cn m fo env st) Q := by
  obtain ⟨o, s1, e1, h⟩ := h
  obtain ⟨k, rfl, ns, vs, ek, d, e3, q⟩ := h.of
  exact ⟨d, s1, by unfold eFldC; rw [e1]; dsimp only; rw [ocG_of ek]; dsimp only; rw [if_pos rfl, e3], q⟩
theorem z_sfldC (h : Ok (fe env st) fun d s1 => Ok (fo env s1) fun o s2 => AsOc o fun k => ∃ ns vs, s2[k]? = some (iC cn ns vs) ∧ ns.length < 1000 ∧ QS (.nx env) (s2.set k (iC cn (putD m d ns vs).1 (putD m d ns vs).2))) : Ok (sFldC cn m fo fe env st) QS := by
  obtain ⟨d, s1, e1, o, s2, e2, h⟩ := h
  obtain ⟨k, rfl, ns, vs, ek, l, q⟩ := h.of
  exact ⟨_, _, by unfold sFldC; rw [e1]; dsimp only; rw [e2]; dsimp only; rw [ocG_of ek]; dsimp only; rw [if_pos ⟨rfl, l⟩], q⟩
end
end LW

/-! LwIa: methods that may raise; conditional expressions, loops and pairs that may raise; raise C(). -/
namespace LW
open PySem L2 PyProof.Rows
/-! ### methods that may raise -/
def eMethX (cn m : Str) (g : FX) (dd : List D) (fo : SE) (f : SA) : EX := fun env st => match fo env st with
  | some (.obj cn' ns vs, s1) => if cn' = cn ∧ ¬ m ∈ ns then (match f env s1 with
      | none => none
      | some (ds, s2) => g (.obj cn' ns vs :: (ds ++ dd)) s2) else none
  | _ => none
def eMethCX (cn m : Str) (g : FX) (dd : List D) (fo : SE) (f : SA) : EX := fun env st => match fo env st with
  | some (.ocl k, s1) => match ocG s1 k with
    | some (cn', ns, _) => if cn' = cn ∧ ¬ m ∈ ns then (match f env s1 with
        | none => none
        | some (ds, s2) => g (.ocl k :: (ds ++ dd)) s2) else none
    | none => none
  | _ => none
section
variable {mg : Glob} {X : Cx} {W : WX} {k : Nat} {f C : Addr} {fd : FuncData} {ps : List Str} {g : FX} {n : Nat} {dvs : List V} {ds : List Value} {dd : List D} {x m : Str} {p pos apos : Pos} {e o : Expr} {es : List Expr} {fs : SA} {fo : SE}
end
/-! ### short words -/
section
variable (P : Program) (w : World) (K : PySem.W.Frag) (mg : Str → Option Value) (base : Heap)
end
section
variable {P : Program} {w : World} {K : PySem.W.Frag} {mg : Str → Option Value} {base : Heap} {k : Nat} {x m qual : Str} {st : Stmt} {nm ps : List Str} {body : SX} {C : Addr}
end
section
variable {X : Cx} {W : WX} {k : Nat} {C : Addr} {ps : List Str} {g : FX} {m cn : Str} {p pos apos : Pos} {e o : Expr} {es : List Expr} {fs : SA} {fo : SE}
end
/-! ### a if c else b; plain expressions among those that may raise -/
def xIfE (t : SB) (f g : EX) : EX := fun env st => match t env st with
  | some (true, s1) => f env s1
  | some (false, s1) => g env s1
  | none => none
def xEL (f : SE) : EX := fun env st => match f env st with
  | some (d, s1) => some (.ok d, s1)
  | none => none
section
variable {mg : Glob} {X : Cx} {W : WX} {e a b c : Expr} {pos : Pos} {f g : EX} {fe : SE} {t : SB}
theorem PostE.from {σ : L2.St} {N N' : Prot} {c c' : List Addr} {H H' : Hp} {st st' : Sto} {Q : VK} {r : RX} (x : Ex N c H N' c' H') (W0 : Wd mg N c H st) (p : PostE mg W σ N c H Q r st') : PostE mg W σ N' c' H' Q r st' := by
  cases r with
  | ok d => exact fun v N2 c2 H2 x2 W2 r2 => p v N2 c2 H2 (x.trans x2 W0) W2 r2
  | ex cn d => exact fun N2 c2 H2 cls da x2 W2 z => p N2 c2 H2 cls da (x.trans x2 W0) W2 z
end
/-! ### for -/
def loopX (chk : Sto → Bool) (asg : D → Env → Option Env) (body : SX) : List D → Env → Sto → Option (OutX × Sto)
  | [], env, st => if chk st = true then some (.o (.nx env), st) else none
  | d :: ds, env, st => if chk st = true then (match asg d env with
    | none => none
    | some e1 => match body e1 st with
      | some (.o (.nx e2), s2) => loopX chk asg body ds e2 s2
      | some (.o (.ct e2), s2) => loopX chk asg body ds e2 s2
      | some (.o (.bk e2), s2) => some (.o (.nx e2), s2)
      | some (.o (.rt d), s2) => some (.o (.rt d), s2)
      | some (.ex cn d e2, s2) => some (.ex cn d e2, s2)
      | none => none) else none
def xFor (fi : Fx Src) (asg : D → Env → Option Env) (body : SX) : SX := fun env st => match fi env st with
  | none => none
  | some (xs, s1) => loopX xs.2 asg body xs.1 env s1
section
variable {mg : Glob} {X : Cx} {W : WX} {tg iter : Expr} {body : List Stmt} {pos : Pos} {fi : Fx Src} {asg : D → Env → Option Env} {fb : SX} {g : TG} {is : List Nat}
end
/-! ### a, b = x, y: the first may raise -/
def xPar2 (i j : Nat) (f : EX) (g : Fx Sl) : SX := fun env st => match f env st with
  | some (.ok d, s1) => (match g env s1 with
    | some (y, s2) => if i = j then none else some (.o (.nx ((env.set i (.val d)).set j y)), s2)
    | none => none)
  | some (.ex cn d, s1) => some (.ex cn d env, s1)
  | none => none
section
variable {mg : Glob} {X : Cx} {W : WX} {a b : Expr} {pos : Pos} {fa : EX} {fb : Fx Sl}
end
/-! ### raise C(), a class without an own __init__ -/
def xBare (cn : Str) : SX := fun env st => some (.ex cn bareD env, st)
end LW

/-! LwIb: raise C() of a class without an own __init__; len(o) by an own __len__; == of lists of tuples with instances that have an own __eq__. -/
namespace LW
open PySem L2 PyProof.Rows
/-! ### raise C() -/
section
variable {X : Cx} {C : Addr} {x : Str} {p pos pos2 : Pos} {mg : Glob} {W : WX}
end
/-! ### len(o) -/
section
variable {X : Cx} {k : Nat} {f C : Addr} {fd : FuncData} {ps : List Str} {sp : Sp}
end
def isOf (st : Sto) (cn : Str) : D → Bool
  | .obj c _ _ => decide (c = cn)
  | .ocl k => match ocG st k with
    | some (c, _, _) => decide (c = cn)
    | none => false
  | _ => false
def eLenO (cn : Str) (g : FM) (fo : SE) : SE := fun env st => match fo env st with
  | some (d, s1) => if isOf s1 cn d = true then (match g [d] s1 with
    | some (.int n, s2) => if 0 ≤ n ∧ n < 2 ^ 63 then some (.int n, s2) else none
    | _ => none) else none
  | none => none
section
variable {X : Cx} {k : Nat} {C : Addr} {ps : List Str} {g : FM} {cn : Str} {p pos : Pos} {e : Expr} {fo : SE}
end
section
variable {env : Env} {st : Sto} {Q : D → Sto → Prop} {fo : SE} {cn : Str} {g : FM}
theorem z_lenO (h : Ok (fo env st) fun d s1 => isOf s1 cn d = true ∧ Ok (g [d] s1) fun r s2 => ∃ n : Int, r = .int n ∧ 0 ≤ n ∧ n < 2 ^ 63 ∧ Q (.int n) s2) : Ok (eLenO cn g fo env st) Q := by
  obtain ⟨d, s1, e1, hi, r, s2, e2, n, rfl, h0, h1, q⟩ := h
  exact ⟨_, s2, by unfold eLenO; rw [e1]; dsimp only; rw [if_pos hi, e2]; dsimp only; rw [if_pos ⟨h0, h1⟩], q⟩
end
end LW

/-! LwIc: == of two lists of equal data, with instances of one class that has an own __eq__ within. -/
namespace LW
open PySem L2 PyProof.Rows
abbrev nobody : Prot := fun _ => False
section
variable {mg : Glob} {N : Prot} {c : List Addr} {H H' : Hp}
end
section
variable {X : Cx} {k : Nat} {C f : Addr} {fd : FuncData} {g : FM} {cn : Str} {ps : List Str}
end
/-! ### the rule -/
theorem RepT.lstH {mg : Glob} {N : Prot} {c : List Addr} {H : Hp} {v : V} {xs : List D} (h : RepT mg N c H v (.lst xs)) : ∃ a vs, v = .ref a ∧ H a = some (.lst vs) ∧ RepL mg N c H vs xs := by
  rcases h with h | ⟨a, vs, ys, rfl, e, ha, _, r⟩
  · cases h with
    | lst ha _ r => exact ⟨_, _, rfl, ha, r⟩
  · cases e
    exact ⟨a, vs, rfl, ha, r⟩
section
variable {X : Cx} {k : Nat} {C : Addr} {cs : List Str} {g : FM} {cn : Str} {a b : Expr} {pos : Pos} {fa fb : SE}
end
section
variable {s : Sto} {Q : D → Prop} {cn : Str} {g : FM} {xs ys : List D}
end
end LW

/-! LwId: one of two readings; a frozen slot ahead of a statement that may raise; comprehensions over the keys of a field's dict; sorted(d.items()). -/
namespace LW
open PySem L2 PyProof.Rows
/-! ### the one reading or the other -/
def xFrz (i : Nat) (f : SX) : SX := fun env st => f (frz i env) st
section
variable {mg : Glob} {X : Cx} {W : WX} {e : Expr} {s : Stmt} {f g : SE} {fx : SX}
end
/-! ### [.. for key in o.m if ..] -/
section
variable {mg : Glob} {X : Cx} {tg : Expr} {pos : Pos} {cn m : Str} {C : Addr}
variable {eltE : Expr} {ifs : List Expr} {scope : Scope} {own : List (Str × Nat)} {asg : D → Env → Option Env} {cond : SB} {elt : SE} {g : TG} {is : List Nat}
end
/-! ### sorted(d.items()) -/
/-- the text of the pair at an address -/
def kx (as : List Addr) (zs : List Str) : Value → Str
  | .ref b => (zs[as.idxOf b]?).getD ""
  | _ => ""
section
variable {prog : Program} {w : World} {A : Around} {s : Shared}
end
end LW

/-! LwIe: sorted(d.items()), d a dict of texts' keys. -/
namespace LW
open PySem PySem.Spec L2 PyProof.Rows
section
variable {X : Cx} {e : Expr} {te : TE} {p apos cpos pos : Pos}
end
/-! ### the mirror -/
def itS (p : DK) (zs : List Str) : List D := (sortS zs).map fun z => .tup [.str z, (getD p.1 p.2 (.inr z)).getD .non]
def eSortIt (fo : SE) : Fx (List D) := fun env st => match fo env st with
  | some (o, s1) => match dicG s1 o with
    | some p => match strKeys p.1 with
      | some zs => some (itS p zs, s1)
      | none => none
    | none => none
  | none => none
section
variable {mg : Glob} {N : Prot} {c : List Addr} {H H' : Hp}
end
section
variable {mg : Glob} {X : Cx} {e : Expr} {apos cpos pos p : Pos} {fo : SE}
end
section
variable {env : Env} {st : Sto} {Q : D → Sto → Prop} {QL : List D → Sto → Prop} {fo : SE}
theorem z_sortIt (h : Ok (fo env st) fun o s1 => ∃ p zs, dicG s1 o = some p ∧ strKeys p.1 = some zs ∧ QL (itS p zs) s1) : Ok (eSortIt fo env st) QL := by
  obtain ⟨o, s1, e1, p, zs, e2, e3, q⟩ := h
  exact ⟨_, s1, by unfold eSortIt; rw [e1]; dsimp only; rw [e2]; dsimp only; rw [e3], q⟩
end
end LW

/-! LwIf: how the mirrors of LwIa … LwIe run, told backwards. -/
namespace LW
open PySem L2
section
variable {env : Env} {st : Sto} {f g : EX} {fx : SX} {fe fo : SE} {fs : SA} {t : SB} {Q : OutX → Sto → Prop} {QE : RX → Sto → Prop} {QD : D → Sto → Prop} {QS : Out → Sto → Prop} {cn m : Str} {i j : Nat}
theorem z_xSet (h : Ok (f env st) fun r s => match r with
    | .ok d => Q (.o (.nx (env.set i (.val d)))) s
    | .ex cn d => Q (.ex cn d env) s) : Ok (xSet i f env st) Q := by
  obtain ⟨r, s, e, q⟩ := h
  cases r with
  | ok d => exact ⟨_, s, by unfold xSet; rw [e], q⟩
  | ex cn d => exact ⟨_, s, by unfold xSet; rw [e], q⟩
theorem z_methX {gx : FX} {dd : List D} (h : Ok (fo env st) fun d s => ∃ ns vs, d = .obj cn ns vs ∧ ¬ m ∈ ns ∧ Ok (fs env s) fun ds s2 => Ok (gx (.obj cn ns vs :: (ds ++ dd)) s2) QE) : Ok (eMethX cn m gx dd fo fs env st) QE := by
  obtain ⟨d, s, e, ns, vs, rfl, hm, ds, s2, e2, q⟩ := h
  unfold eMethX
  rw [e]
  dsimp only
  rw [if_pos ⟨rfl, hm⟩, e2]
  exact q
theorem z_methCX {gx : FX} {dd : List D} (h : Ok (fo env st) fun d s => AsOc d fun k => ∃ ns vs, s[k]? = some (iC cn ns vs) ∧ ¬ m ∈ ns ∧ Ok (fs env s) fun ds s2 => Ok (gx (.ocl k :: (ds ++ dd)) s2) QE) : Ok (eMethCX cn m gx dd fo fs env st) QE := by
  obtain ⟨d, s, e, h⟩ := h
  obtain ⟨k, rfl, ns, vs, hk, hn, ds, s2, e2, q⟩ := h.of
  unfold eMethCX
  rw [e]
  dsimp only
  rw [ocG_of hk]
  dsimp only
  rw [if_pos ⟨rfl, hn⟩, e2]
  exact q
theorem z_xIfE (h : Ok (t env st) fun b s => if b = true then Ok (f env s) QE else Ok (g env s) QE) : Ok (xIfE t f g env st) QE := by
  obtain ⟨b, s, e, q⟩ := h
  unfold xIfE
  rw [e]
  cases b with
  | true => exact q
  | false => exact q
theorem z_xEL (h : Ok (fe env st) fun d s => QE (.ok d) s) : Ok (xEL fe env st) QE := by
  obtain ⟨d, s, e, q⟩ := h
  exact ⟨_, s, by unfold xEL; rw [e], q⟩
theorem z_xPar2 {fg : Fx Sl} (hij : i ≠ j) (h : Ok (f env st) fun r s => match r with
    | .ok d => Ok (fg env s) fun y s2 => Q (.o (.nx ((env.set i (.val d)).set j y))) s2
    | .ex cn d => Q (.ex cn d env) s) : Ok (xPar2 i j f fg env st) Q := by
  obtain ⟨r, s, e, q⟩ := h
  cases r with
  | ok d =>
    obtain ⟨y, s2, e2, q⟩ := q
    exact ⟨_, s2, by unfold xPar2; rw [e]; dsimp only; rw [e2]; dsimp only; rw [if_neg hij], q⟩
  | ex cn d => exact ⟨_, s, by unfold xPar2; rw [e], q⟩
theorem z_xBare (q : Q (.ex cn bareD env) st) : Ok (xBare cn env st) Q := ⟨_, st, rfl, q⟩
theorem z_xFrz (h : Ok (fx (frz i env) st) Q) : Ok (xFrz i fx env st) Q := h
theorem z_xFor {fi : Fx Src} {asg : D → Env → Option Env} {body : SX} (h : Ok (fi env st) fun xs s => Ok (loopX xs.2 asg body xs.1 env s) Q) : Ok (xFor fi asg body env st) Q := by
  obtain ⟨xs, s, e, q⟩ := h
  unfold xFor
  rw [e]
  exact q
end
end LW

/-! LwHb: a head by one kernel run: the facts that a law needs, read by a Hook. -/
namespace LW
open PySem L2 PyProof.Rows
/-- the goal that head_any leaves, from the law's promise; the written part by facts -/
theorem walk_DE {l : PySem.W.OpenLaw} {n k : Nat} {q : Program} {loose : List Str} {XP : (Str → Option Value) → Heap → Prop} {YP : World → Heap → Prop} {d : DefRec} {x : Str} {g : FM}
    (hn : l.most = some n) (hn2 : n ≤ sizeLine) (hdf : d.params.defaults = []) (hr : Room k callerA)
    (F : ∀ (w : World) (mg : Str → Option Value) (fa : Addr) (h : Heap), YP w h → h.Ns mainGlobals mg → mg d.name = some (.ref fa) →
      ∃ K : PySem.W.Frag, K.In h ∧ ∃ fd : FuncData, (∀ (s : Shared) (u : Value), BindsTo s fd ⟨[u], []⟩ [(x, u)]) ∧ ∀ base : Heap, K.In base → base.Ns mainGlobals mg → FnD l.prog w K mg base k fa fd [x] (spM ⟨mg, K⟩ g 1))
    (hg : ∀ ns : List Int, ns.length ≤ n → ∃ st', g [.fro (ns.map D.int)] [] = some (.bl true, st')) :
    PySem.W.WalkO q loose XP YP l.row.toRowW d [] (fun f vs => PySem.call f vs) := by
  refine Att.attach_call hn hdf fun w s₀ s₁ mg mb fa o pm cd doc a vs ns G Y ho hd hcd hmg hobj hints hlen hg' => ?_
  obtain ⟨K, KX, fd, hb, hF⟩ := F w mg fa _ Y G.T.g hmg
  obtain ⟨st', e⟩ := hg ns hlen
  exact law_D KX G.T.g G.T.b G.T.builtins G.T.nolimit hg' hobj hints (Nat.le_trans hlen hn2) hr hF hb fun H hO hS => sp_law (mg := ⟨mg, K⟩) hO hS e
/-! ### the Hook: defs, facts by names, and one Bool more -/
/-! ### facts to words -/
section
variable {K : PySem.W.Frag} {h : Heap} {mg : Str → Option Value} {x cn m qual : Str} {st : Stmt}
theorem ft_of (X : K.In h) (G : h.Ns mainGlobals mg) (c : (He.Fa.glo x).ok K = true) (F : ∃ fd, FunD K x x (defArgs st) (defBody st) (defScope st) [] [] (He.fAd K (x, none)) fd) : FT K mg x st := by
  obtain ⟨fd, F⟩ := F
  exact ⟨_, fd, He.glo_ok X G c, He5.fun_of F⟩
theorem ftd_of {dvs : List V} (X : K.In h) (G : h.Ns mainGlobals mg) (c : (He.Fa.glo x).ok K = true) (F : ∃ fd, FunD K x x (defArgs st) (defBody st) (defScope st) dvs [] (He.fAd K (x, none)) fd) : FTd K mg x st dvs := by
  obtain ⟨fd, F⟩ := F
  exact ⟨_, fd, He.glo_ok X G c, F⟩
theorem mt_of (c : (He.Fa.meth cn m).ok K = true) (F : ∃ fd, FunD K m qual (defArgs st) (defBody st) (defScope st) [] [] (He.fAd K (cn, some m)) fd) : MT K (He.ga K cn) m qual st := by
  obtain ⟨fd, F⟩ := F
  exact ⟨_, fd, He.meth_ok c, He5.fun_of F⟩
theorem in_of (c : (He.Fa.mkr cn).ok K = true) (F : ∃ fd, FunD K "__init__" qual (defArgs st) (defBody st) (defScope st) [] [] (He.fAd K (cn, some "__init__")) fd) : ∃ f fd, Mk K (He.ga K cn) f ∧ Fun K "__init__" qual st f fd := by
  obtain ⟨fd, F⟩ := F
  exact ⟨_, fd, He.mkr_ok c, He5.fun_of F⟩
theorem isi1_of (hC : mg cn = some (.ref (He.ga K cn))) (e : isB K cn = true) : Isi ⟨mg, K⟩ [cn] := by
  obtain ⟨e1, e⟩ := bsplit e
  obtain ⟨e2, e⟩ := bsplit e
  obtain ⟨e3, e⟩ := bsplit e
  obtain ⟨e4, e⟩ := bsplit e
  obtain ⟨e5, e⟩ := bsplit e
  obtain ⟨e6, e⟩ := bsplit e
  obtain ⟨e7, e⟩ := bsplit e
  obtain ⟨e8, e⟩ := bsplit e
  obtain ⟨e9, e⟩ := bsplit e
  obtain ⟨ea, eb⟩ := bsplit e
  have a := fun t ht => eqB_ok (List.all_eq_true.mp ea t ht)
  have b := fun t ht => eqB_ok (List.all_eq_true.mp eb t ht)
  exact isi1_mk hC (cf_mk e1 e2 e3 (He.eqO_ok e4) (He.eqO_ok e5) (He.eqO_ok e6) (eqB_ok e7) (eqB_ok e8)) (eqB_ok e9) (a "int" (by simp)) (a "str" (by simp)) (a "list" (by simp)) (a "tuple" (by simp)) (a "dict" (by simp)) (a "bool" (by simp)) (a "NoneType" (by simp)) (b "int" (by simp)) (b "str" (by simp)) (b "list" (by simp)) (b "tuple" (by simp)) (b "dict" (by simp)) (b "bool" (by simp))
theorem nf_of {cs : List Str} (hC : ∀ c ∈ cs, mg c = some (.ref (He.ga K c))) (e : nfB K cn cs = true) : NotF ⟨mg, K⟩ cs (He.ga K cn) where
  own n D h hn := by
    obtain ⟨e1, _⟩ := bsplit e
    cases (hC n h).symm.trans hn
    exact List.all_eq_true.mp e1 n h
  blt t := by
    obtain ⟨_, e2⟩ := bsplit e
    have a := fun t ht => List.all_eq_true.mp e2 t ht
    cases t
    · exact a "NoneType" (by simp)
    · exact a "bool" (by simp)
    · exact a "int" (by simp)
    · exact a "str" (by simp)
    · exact a "list" (by simp)
    · exact a "tuple" (by simp)
    · exact a "dict" (by simp)
end
end LW

/-! LwHc: the program's own errors, read by the Hook. -/
namespace LW
open PySem PySem.W L2 PyProof.Rows
open PySem.LeafX PySem.HandSPX
/-! ### what the module's names reach, each address once -/
/-! ### the Hook: defs, facts by names, one Bool more, the own errors -/
theorem andL_ok : ∀ {l : List Bool} {i : Nat} {b : Bool}, andL l = true → l[i]? = some b → b = true
  | x :: l, 0, b, h, e => by
    cases e
    exact (bsplit h).1
  | x :: l, i + 1, b, h, e => andL_ok (bsplit h).2 e
end LW

/-! LwHd: != of lists whose items are compared by the text's own ==; list(d.items()) of any dict. -/
namespace PySem.SeqAt
open AutoSeq1 (wpAny_loadPart')
open MeetsSeq MeetsSeq2 MeetsSeq3 SeqRoads2
section
variable {P : Program} {w : World} {A : Around} {R : Result → Shared → Prop}
end
section
variable {P : Program} {w : World} {A : Around} {E : Value → Shared → Prop} {t : Shared}
end
end PySem.SeqAt
namespace LW
open PySem PySem.Spec L2 PyProof.Rows
section
variable {X : Cx} {n : Nat} {D : Eqv}
end
section
variable {X : Cx} {k : Nat} {C : Addr} {cs : List Str} {g : FM} {cn : Str} {a b : Expr} {pos : Pos} {fa fb : SE}
end
section
variable {s : Sto} {Q : D → Prop} {cn : Str} {g : FM} {xs ys : List D}
end
/-! ### list(d.items()) -/
section
variable {X : Cx} {e : Expr} {te : TE} {p apos cpos pos : Pos}
end
section
variable {mg : Glob} {X : Cx} {e : Expr} {apos cpos pos p : Pos} {fo : SE}
end
section
variable {env : Env} {st : Sto} {QL : List D → Sto → Prop} {fo : SE}
end
end LW

/-! LwHe: == and != of dicts of instances with an own __eq__, the keys in any order. -/
namespace LW
open PySem L2 PyProof.Rows
section
variable {mg : Glob} {X : Cx} {pins : List (Addr × Obj)} {σ : L2.St} {H : Hp} {s : Shared} {N : Prot} {c : List Addr} {st : Sto} {k : Nat} {C : Addr} {cs : List Str} {g : FM} {cn : Str} {E : Value → Shared → Prop}
end
section
variable {X : Cx} {k : Nat} {C : Addr} {cs : List Str} {g : FM} {cn : Str} {a b : Expr} {pos : Pos} {fa fb : SE}
end
end LW

/-! LwJa: walks over dicts whose keys are tuples (printed by mkt.py from LwYc, LwZc). -/
namespace LW
open PySem L2 PyProof.Rows
/-- a heap in which dicts are locked or unlocked -/
structure LkT (N : Prot) (H H' : Hp) : Prop where
  keep : ∀ a o, H a = some o → (∀ kvs, ¬ (o = .dT kvs ∨ ∃ b, o = .frz b (.dT kvs))) → H' a = some o
  dic : ∀ a kvs, Rd H a (.dT kvs) → Rd H' a (.dT kvs)
  ex : ∀ a, N a → H' a = H a
section
variable {mg : Glob} {N : Prot} {c : List Addr} {H H' : Hp} {st : Sto}
theorem LkT.some (l : LkT N H H') {a : Addr} (h : H a ≠ none) : H' a ≠ none := by
  cases e : H a with
  | none => exact absurd e h
  | some o =>
    by_cases q : ∃ kvs, o = .dT kvs ∨ ∃ b, o = .frz b (.dT kvs)
    · obtain ⟨kvs, q⟩ := q
      have : Rd H a (.dT kvs) := q.elim (fun z => .inl (by rw [e, z])) fun ⟨b, z⟩ => .inr ⟨b, by rw [e, z]⟩
      rcases l.dic a kvs this with z | ⟨b, z⟩ <;> rw [z] <;> exact fun y => nomatch y
    · rw [l.keep a o e fun kvs z => q ⟨kvs, z⟩]
      exact fun y => nomatch y
end
/-! ### walks over the keys -/
abbrev keyT (k : List Key) : D := .tup (k.map keyV)
def iKyT (i : Nat) : Fx Src := fun env st => match env[i]? with
  | some (.val (.dit ks _)) => some ((ks.map keyT, noChk), st)
  | _ => none
section
variable {mg : Glob} {X : Cx} {tg : Expr} {pos : Pos}
variable {eltE : Expr} {ifs : List Expr} {scope : Scope} {own : List (Str × Nat)} {asg : D → Env → Option Env} {cond : SB} {elt : SE} {g : TG} {is : List Nat}
end
section
variable {mg : Glob} {N N' : Prot} {c c' : List Addr} {H H' : Hp} {st st' : Sto} {E : En} {env env' : Env} {σ σ' : L2.St} {a : Addr} {od : Obj} {kvs : List (List Key × V)}
end
section
variable {mg : Glob} {X : Cx} {tg : Expr} {body : List Stmt} {pos : Pos} {fb : SS} {asg : D → Env → Option Env} {g : TG} {is : List Nat}
end
end LW

/-! LwJb: dicts whose keys are tuples: read, written, the frame's own (printed by mkt2.py in part). -/
namespace LW
open PySem L2 PyProof.Rows
abbrev DKT : Type := List (List Key) × List D
def memT (k : List Key) (ks : List (List Key)) : Bool := ks.any fun y => decide (y = k)
def getDT : List (List Key) → List D → List Key → Option D
  | k :: ks, d :: ds, x => if k = x then some d else getDT ks ds x
  | _, _, _ => none
def putVT : List (List Key) → List D → List Key → D → List D
  | k :: ks, d :: ds, x, y => (if k = x then y else d) :: putVT ks ds x y
  | _, _, _, _ => []
def putKDT (p : DKT) (x : List Key) (y : D) : DKT := if memT x p.1 = true then (p.1, putVT p.1 p.2 x y) else (p.1 ++ [x], p.2 ++ [y])
section
variable {mg : Glob} {N : Prot} {c : List Addr} {H : Hp} {st : Sto} {u : V} {x : D}
def keysD : D → Option (List Key)
  | .tup xs => mapO keyD xs
  | _ => none
theorem RepL.keys : ∀ {k : List Key} {vs : List V}, RepL mg N c H vs (k.map keyV) → vs = k.map kV
  | [], _, .nil => rfl
  | x :: r, _, .cons h t => by
    rw [List.map_cons, RepL.keys t, RepT.key (.inl h) keyD_V]
theorem RepT.dit {ks : List (List Key)} {ds : List D} (h : RepT mg N c H u (.dit ks ds)) : ∃ a kvs, u = .ref a ∧ Rd H a (.dT kvs) ∧ kvs.map (·.1) = ks ∧ RepL mg N c H (kvs.map (·.2)) ds := by
  rcases h with h | ⟨_, _, _, _, e, _⟩
  · cases h with
    | dit h n hn r => exact ⟨_, _, rfl, .inl h, hn, r⟩
    | ditz h n hn r => exact ⟨_, _, rfl, .inr ⟨_, h⟩, hn, r⟩
  · cases e
end
/-! ### d[k] -/
section
variable {mg : Glob} {X : Cx} {a b : Expr} {pos : Pos} {fa fb : SE}
end
/-! ### the frame's own -/
section
variable {mg : Glob} {E : En} {N N' : Prot} {c c' : List Addr} {H H' : Hp} {st st' : Sto} {env : Env} {σ : L2.St}
def frzT (i : Nat) (env : Env) : Env := match env[i]? with
  | some (.ownT ks xs) => env.set i (.val (.dit ks xs))
  | _ => env
theorem Rel.frzT {i : Nat} (R : Rel mg E N c env st σ H) : ∃ N', Rel mg E N' c (LW.frzT i env) st σ H ∧ Sx N c H N' c H := by
  unfold LW.frzT
  split
  · rename_i ks xs he
    obtain ⟨a, kvs, es, ha, hm, r⟩ := R.sl i _ he
    have es := join_some es
    obtain ⟨na, nc, n0⟩ := R.own i _ a he rfl es
    have less : ∀ b, (N b ∧ b ≠ a) → N b := fun b z => z.1
    have tr : Tr N c H (fun b => N b ∧ b ≠ a) c H := Tr.less less
    have il : i < env.length := (List.getElem?_eq_some_iff.mp he).1
    refine ⟨fun b => N b ∧ b ≠ a, ⟨by rw [List.length_set]; exact R.len, fun j s' e => ?_, fun j s' b e ho z => ?_, fun j k s1 s2 b e1 o1 e2 o2 h1 h2 => ?_, R.wd.less less fun b z => ⟨R.wd.cn b z, fun q => nc (q ▸ z)⟩, fun b z => ⟨R.n0 b z, fun q => R.t0 b z (by rw [q]; exact n0)⟩, R.t0, R.base, R.pre, R.newc, fun j cn ns ds b e z => (get_set e).elim (fun q => nomatch q.2) fun q => R.slf j cn ns ds b q.2 z⟩, ⟨fun _ _ e _ => e, fun b z => .inl z.1, fun _ _ z => z, fun _ z => .inl z, fun _ z => z, fun _ _ z => z⟩⟩
    · rcases get_set e with ⟨rfl, rfl⟩ | ⟨ne, e⟩
      · rw [es]
        exact ⟨.ref a, rfl, .dit ha (fun z => z.2 rfl) hm (r.tr tr)⟩
      · have q := R.sl j s' e
        cases s' with
        | un => trivial
        | val d => obtain ⟨v, ev, rv⟩ := q; exact ⟨v, ev, rv.tr tr⟩
        | own ys => obtain ⟨b, us', ev, hb', rv⟩ := q; exact ⟨b, us', ev, hb', rv.tr tr⟩
        | ownI cn ns ds => obtain ⟨b, C, dx, fs, ev, hc, hb', hn, rv⟩ := q; exact ⟨b, C, dx, fs, ev, hc, hb', hn, rv.tr tr⟩
        | ownD ks ds => obtain ⟨b, kvs, ev, hb', hn, rv⟩ := q; exact ⟨b, kvs, ev, hb', hn, rv.tr tr⟩
        | ownT ks ds => obtain ⟨b, kvs, ev, hb', hn, rv⟩ := q; exact ⟨b, kvs, ev, hb', hn, rv.tr tr⟩
    · rcases get_set e with ⟨rfl, rfl⟩ | ⟨ne, e⟩
      · cases ho
      · obtain ⟨z1, z2, z3⟩ := R.own j s' b e ho z
        refine ⟨⟨z1, fun q => ?_⟩, z2, z3⟩
        subst q
        exact ne (R.inj i j _ s' b he rfl e ho es z)
    · rcases get_set e1 with ⟨rfl, rfl⟩ | ⟨n1, e1⟩
      · cases o1
      · rcases get_set e2 with ⟨rfl, rfl⟩ | ⟨n2, e2⟩
        · cases o2
        · exact R.inj j k s1 s2 b e1 o1 e2 o2 h1 h2
  · exact ⟨N, R, Sx.refl⟩
end
def sFrzT (i : Nat) (f : SS) : SS := fun env st => f (frzT i env) st
section
variable {mg : Glob} {X : Cx} {s : Stmt} {f : SS}
end
/-! ### a new dict -/
def RDT (mg : Glob) : Told DKT := fun _ _ H N' c' H' v d => ∃ p kvs, v = .ref p ∧ H p = none ∧ N' p ∧ p ∉ c' ∧ H' p = some (.dT kvs) ∧ kvs.map (·.1) = d.1 ∧ RepL mg N' c' H' (kvs.map (·.2)) d.2
def eDT (f : Fx DKT) : SE := fun env st => (f env st).map fun p => (.dit p.1.1 p.1.2, p.2)
section
variable {mg : Glob} {N N' : Prot} {c c' : List Addr} {H H' : Hp} {st st' : Sto} {v : V} {X : Cx} {e : Expr}
theorem RDT.give {d : DKT} (W : Wd mg N c H st) (x : Ex N c H N' c' H') (W' : Wd mg N' c' H' st') (h : RDT mg N c H N' c' H' v d) : ∃ N'', Ex N c H N'' c' H' ∧ Wd mg N'' c' H' st' ∧ Rep mg N'' c' H' v (.dit d.1 d.2) := by
  obtain ⟨p, kvs, rfl, hp, np, nc, hv, hm, r⟩ := h
  have less : ∀ a, (N' a ∧ a ≠ p) → N' a := fun a z => z.1
  refine ⟨fun a => N' a ∧ a ≠ p, ⟨x.keep, fun a z => x.new a z.1, fun a z => ⟨x.mono a z, fun e => W.trk a z (by rw [e]; exact hp)⟩, x.pre, x.newc⟩, W'.less less fun a z => ⟨W'.cn a z, fun e => nc (e ▸ z)⟩, ?_⟩
  exact .dit hv (fun z => z.2 rfl) hm (r.tr (Tr.less less))
theorem RDT.laid {kvs : List (List Key × V)} {d : DKT} {p : Addr} (W : Wd mg N c H st) (hp : H p = none) (hm : kvs.map (·.1) = d.1) (r : RepL mg N c H (kvs.map (·.2)) d.2) : RDT mg N c H (fun a => N a ∨ a = p) c (upd H p (.dT kvs)) (.ref p) d :=
  ⟨p, kvs, rfl, hp, .inr rfl, W.cnone hp, upd_same, hm, r.tr ((Ex.laidN W hp).tr W)⟩
end
/-- a new empty dict, to have tuples as keys -/
def toT (f : Fx DK) : Fx DKT := fun env st => match f env st with
  | some (([], []), s1) => some (([], []), s1)
  | _ => none
def lT0 : Fx DKT := fun _ st => some (([], []), st)
section
variable {mg : Glob} {X : Cx} {e : Expr} {pos : Pos} {f : Fx DK}
end
/-! ### statements -/
def sOwnT (i : Nat) (f : Fx DKT) : SS := fun env st => match f env st with
  | some (d, s1) => some (.nx (env.set i (.ownT d.1 d.2)), s1)
  | none => none
def sPutT (i : Nat) (fk fe : SE) : SS := fun env st => match fe env st with
  | some (d, s1) => (match fk env s1 with
    | some (y, s2) => (match env[i]? with
      | some (.ownT ks vs) => (match keysD y with
        | some k => if ks.length < 1000000 then some (.nx (env.set i (.ownT (putKDT (ks, vs) k d).1 (putKDT (ks, vs) k d).2)), s2) else none
        | none => none)
      | _ => none)
    | none => none)
  | none => none
section
variable {mg : Glob} {X : Cx} {e ej : Expr} {pos tpos : Pos} {fe fj : SE} {fl : Fx DKT}
end
end LW

/-! LwJc: sorted(d) of a dict whose keys are pairs of a whole number and a text. -/
namespace LW
open PySem L2 PyProof.Rows
/-! ### pairs in order -/
abbrev IS : Type := Int × Str
def leP (p q : IS) : Prop := p.1 < q.1 ∨ (p.1 = q.1 ∧ leS p.2 q.2)
instance {p q : IS} : Decidable (leP p q) := inferInstanceAs (Decidable (p.1 < q.1 ∨ (p.1 = q.1 ∧ leS p.2 q.2)))
abbrev pP (z : IS) : D := .tup [.int z.1, .str z.2]
/-! ### the sort -/
section
variable {prog : Program} {w : World} {A : Around} {s : Shared}
end
section
variable {X : Cx}
end
section
variable {mg : Glob} {X : Cx} {e : Expr} {es : List Expr} {p pos : Pos} {f : SA}
end
end LW

/-! LwJd: isinstance(d, dict), {k: v}, a, b, c = x, y, dict([]), of dicts whose keys are tuples. -/
namespace LW
open PySem L2 PyProof.Rows
/-! ### isinstance(d, dict) -/
section
variable {mg : Glob} {X : Cx} {e : Expr} {es : List Expr} {p pos : Pos} {f : SA}
end
end LW
/-! ### {k: v} -/
namespace PySem
open Sem (wp)
section
variable {prog : Program} {w : World} {K : Type} [DecidableEq K] {knd : HeapKind prog w K} {A : Around} {E : Value → Shared → Prop} {s : Shared} {env : Env}
end
end PySem
namespace LW
open PySem PySem.Spec L2 PyProof.Rows
def lTd (fk fv : SE) : Fx DKT := fun env st => match fk env st with
  | some (y, s1) => (match keysD y with
    | some k => (match fv env s1 with
      | some (d, s2) => some (([k], [d]), s2)
      | none => none)
    | none => none)
  | none => none
section
variable {mg : Glob} {X : Cx} {pos : Pos} {a b : Expr} {fa fb : SE}
end
/-! ### a, b, c = x, y, dict([]) -/
def sPar3T (i j l : Nat) (fa fb : SE) (fc : Fx DKT) : SS := fun env st => match fa env st with
  | some (x, s1) => match fb env s1 with
    | some (y, s2) => match fc env s2 with
      | some (z, s3) => some (.nx (((env.set i (.val x)).set j (.val y)).set l (.ownT z.1 z.2)), s3)
      | none => none
    | none => none
  | none => none
section
variable {mg : Glob} {X : Cx} {a b c : Expr} {pos : Pos} {fa fb : SE} {fc : Fx DKT}
end
end LW

/-! LwJe: repr of a list with dicts within. -/
namespace LW
open PySem PySem.Spec L2 PyProof.Rows
def keyPy : Key → PyData
  | .inl i => .int i
  | .inr z => .str z
mutual
inductive DpD (H : Hp) : V → PyData → Prop where
  | non : DpD H .non .none
  | bl (b : Bool) : DpD H (.bl b) (.bool b)
  | int (i : Int) : DpD H (.int i) (.int i)
  | str (x : Str) : DpD H (.str x) (.str x)
  | tup {a : Addr} {vs : List V} {ds : List PyData} (h : H a = some (.tup vs)) (r : DpDs H vs ds) : DpD H (.ref a) (.tuple ds)
  | dK {a : Addr} {kvs : List (Key × V)} {ds : List PyData} (h : Rd H a (.dK kvs)) (r : DpDs H (kvs.map (·.2)) ds) : DpD H (.ref a) (.dict ((kvs.map fun kv => keyPy kv.1).zip ds))
  | dT {a : Addr} {kvs : List (List Key × V)} {ds : List PyData} (h : Rd H a (.dT kvs)) (r : DpDs H (kvs.map (·.2)) ds) : DpD H (.ref a) (.dict ((kvs.map fun kv => PyData.tuple (kv.1.map keyPy)).zip ds))
inductive DpDs (H : Hp) : List V → List PyData → Prop where
  | nil : DpDs H [] []
  | cons {v : V} {d : PyData} {vs : List V} {ds : List PyData} (h : DpD H v d) (t : DpDs H vs ds) : DpDs H (v :: vs) (d :: ds)
end
theorem DpDs.length {H : Hp} : ∀ {vs : List V} {ds : List PyData}, DpDs H vs ds → vs.length = ds.length
  | _, _, .nil => rfl
  | _, _, .cons _ t => by rw [List.length_cons, List.length_cons, DpDs.length t]
section
variable {X : Cx} {pins : List (Addr × Obj)} {σ : L2.St} {H : Hp} {s : Shared}
theorem reads_keys {h : Heap} : ∀ {ks : List Key} {us : List Value}, Vals (ks.map kV) us → ReadsAll h us (ks.map keyPy) []
  | [], _, .nil => .nil
  | k :: ks, _, .cons r t => by
    have := reads_keys (h := h) t
    cases k with
    | inl i =>
      obtain ⟨t, rfl⟩ := (show ∃ t, _ = Value.int i t from r)
      exact ReadsAll.cons (.int i t) this
    | inr z =>
      obtain ⟨t, rfl⟩ := (show ∃ t, _ = Value.str z t from r)
      exact ReadsAll.cons (.str z t) this
theorem reads_pairs {P : Program} {w : World} {h : Heap} : ∀ {es : List DictEntry} {vs : List (Key × Value)}, Pairs (mixKind P w) es vs → ReadsAll h (es.map (·.key)) (vs.map fun q => keyPy q.1) [] ∧ es.map (·.val) = vs.map (·.2)
  | _, _, .nil => ⟨.nil, rfl⟩
  | _, _, .cons (e := e) (kv := kv) a b t => by
    obtain ⟨h1, h2⟩ := reads_pairs (h := h) t
    refine ⟨?_, by rw [List.map_cons, List.map_cons, h2, b]⟩
    rw [List.map_cons, List.map_cons]
    have a : keyIs kv.1 e.key = true := a
    rcases keyIs_shape a with ⟨i, t, ei, ek⟩ | ⟨y, t, ey, ek⟩
    · rw [ei, ek]
      exact ReadsAll.cons (.int i t) h1
    · rw [ey, ek]
      exact ReadsAll.cons (.str y t) h1
theorem reads_keysT (I : Inv X pins σ H s) : ∀ {kvs : List (List Key × V)} {xs : List (List Key × Addr × Value)}, KT H kvs xs → ReadsAll s.heap (xs.map fun x => Value.ref x.2.1) (kvs.map fun kv => PyData.tuple (kv.1.map keyPy)) []
  | _, _, .nil => .nil
  | p :: _, q :: _, .cons r t => by
    obtain ⟨e1, e2, _⟩ := r
    obtain ⟨_, its, rv, o, h1, h2, n, h3⟩ := (show ObjOk X.prog X.w H s.heap q.2.1 (.tup (p.1.map kV)) from I.hok _ _ e2)
    exact ReadsAll.cons (as := []) (bs := []) (Reads.tuple h1 h2 h3 (by simpa using reads_keys rv)) (reads_keysT I t)
theorem kv_vals : ∀ {kvs : List (Key × V)} {vs : List (Key × Value)}, KV kvs vs → Vals (kvs.map (·.2)) (vs.map (·.2)) := by
  intro kvs vs r
  unfold KV at r
  induction r with
  | nil => exact .nil
  | cons h t ih => exact .cons h.2 ih
theorem kt_vals : ∀ {kvs : List (List Key × V)} {xs : List (List Key × Addr × Value)}, KT H kvs xs → Vals (kvs.map (·.2)) (xs.map fun x => x.2.2)
  | _, _, .nil => .nil
  | _, _, .cons h t => .cons h.2.2 (kt_vals t)
theorem kv_keys {kvs : List (Key × V)} {vs : List (Key × Value)} (r : KV kvs vs) : (vs.map fun q => keyPy q.1) = kvs.map fun kv => keyPy kv.1 := by
  have := congrArg (List.map keyPy) r.keys
  rw [List.map_map, List.map_map] at this
  exact this.symm
theorem zip_fst {α β : Type} {xs : List α} {ys : List β} (l : xs.length = ys.length) : (xs.zip ys).map (·.1) = xs := List.map_fst_zip (by omega)
theorem zip_snd {α β : Type} {xs : List α} {ys : List β} (l : xs.length = ys.length) : (xs.zip ys).map (·.2) = ys := List.map_snd_zip (by omega)
mutual
theorem DpD.reads (I : Inv X pins σ H s) {v : V} {d : PyData} {u : Value} : DpD H v d → RelV v u → ∃ as, Reads s.heap u d as ∧ sysModules ∉ as
  | .non, r => by
    cases (show u = Value.none from r)
    exact ⟨_, .none, by simp⟩
  | .bl b, r => by
    cases (show u = Value.bool b from r)
    exact ⟨_, .bool b, by simp⟩
  | .int i, r => by
    obtain ⟨t, rfl⟩ := (show ∃ t, u = Value.int i t from r)
    exact ⟨_, .int i t, by simp⟩
  | .str x, r => by
    obtain ⟨t, rfl⟩ := (show ∃ t, u = Value.str x t from r)
    exact ⟨_, .str x t, by simp⟩
  | .tup (a := a) (vs := vs) h q, r => by
    cases (show u = Value.ref a from r)
    obtain ⟨_, its, rv, o, h1, h2, n, h3⟩ := (show ObjOk X.prog X.w H s.heap a (.tup vs) from I.hok _ _ h)
    obtain ⟨as, r1, r2⟩ := DpDs.reads I q rv
    exact ⟨as, Reads.tuple h1 h2 h3 (by simpa using r1), r2⟩
  | .dK (a := a) (kvs := kvs) (ds := ds) h q, r => by
    cases (show u = Value.ref a from r)
    obtain ⟨z, lo, vs, kv, o, es, ep, h1, h2, h3, h4, prs, nd⟩ := dk_rd I.hok h
    obtain ⟨p1, p2⟩ := reads_pairs (h := s.heap) prs
    have rv := kv_vals kv
    rw [← p2] at rv
    obtain ⟨as, r1, r2⟩ := DpDs.reads I q rv
    have l : (kvs.map fun kv => keyPy kv.1).length = ds.length := by rw [List.length_map, ← q.length, List.length_map]
    refine ⟨_, Reads.dict h1 h2.1 h3 (as := []) (bs := as) ?_ ?_, ?_⟩
    · rw [zip_fst l, ← kv_keys kv]
      exact p1
    · rw [zip_snd l]
      exact r1
    · simp only [List.nil_append, List.cons_append, List.mem_cons, not_or]
      exact ⟨fun e => by rw [← e] at lo; simp at lo, r2⟩
  | .dT (a := a) (kvs := kvs) (ds := ds) h q, r => by
    cases (show u = Value.ref a from r)
    obtain ⟨z, lo, xs, kt, o, es, ep, h1, h2, h3, h4, _, nd⟩ := dt_rd I.hok h
    have e1 : es.toList.map (·.key) = xs.map fun x => Value.ref x.2.1 := by rw [h4, List.map_map]; rfl
    have e2 : es.toList.map (·.val) = xs.map fun x => x.2.2 := by rw [h4, List.map_map]; rfl
    have rv := kt_vals kt
    rw [← e2] at rv
    obtain ⟨as, r1, r2⟩ := DpDs.reads I q rv
    have l : (kvs.map fun kv => PyData.tuple (kv.1.map keyPy)).length = ds.length := by rw [List.length_map, ← q.length, List.length_map]
    refine ⟨_, Reads.dict h1 h2.1 h3 (as := []) (bs := as) ?_ ?_, ?_⟩
    · rw [zip_fst l, e1]
      exact reads_keysT I kt
    · rw [zip_snd l]
      exact r1
    · simp only [List.nil_append, List.cons_append, List.mem_cons, not_or]
      exact ⟨fun e => by rw [← e] at lo; simp at lo, r2⟩
theorem DpDs.reads (I : Inv X pins σ H s) {vs : List V} {ds : List PyData} {us : List Value} : DpDs H vs ds → Vals vs us → ∃ as, ReadsAll s.heap us ds as ∧ sysModules ∉ as
  | .nil, .nil => ⟨[], .nil, by simp⟩
  | .cons h t, .cons r q => by
    obtain ⟨as, r1, r2⟩ := DpD.reads I h r
    obtain ⟨bs, r3, r4⟩ := DpDs.reads I t q
    exact ⟨as ++ bs, .cons r1 r3, fun z => (List.mem_append.mp z).elim r2 r4⟩
end
end
end LW
namespace PySem
open Sem (wp)
end PySem
namespace LW
open PySem PySem.Spec L2 PyProof.Rows
/-! ### the mirror -/
section
variable {mg : Glob} {N : Prot} {c : List Addr} {H : Hp} {st : Sto}
end
end LW

/-! LwJf: how mirrors with dicts of tuple keys run; repr of dicts and of great numbers. -/
namespace LW
open PySem L2 PySem.Spec PyProof.Rows
section
variable {env : Env} {st : Sto} {Q : D → Sto → Prop} {QL : List D → Sto → Prop} {QT : DKT → Sto → Prop} {QS : Out → Sto → Prop} {QI : Src → Sto → Prop} {i j l : Nat} {fa fb fe fk : SE} {f : Fx DKT} {fd : Fx DK}
theorem z_DT (h : Ok (f env st) fun d s => Q (.dit d.1 d.2) s) : Ok (eDT f env st) Q := by
  obtain ⟨d, s1, e1, h⟩ := h
  exact ⟨_, s1, by unfold eDT; rw [e1]; rfl, h⟩
theorem z_t0 (h : QT ([], []) st) : Ok (lT0 env st) QT := ⟨_, st, rfl, h⟩
theorem z_toT (h : Ok (fd env st) fun d s => d = ([], []) ∧ QT ([], []) s) : Ok (toT fd env st) QT := by
  obtain ⟨d, s1, e1, rfl, h⟩ := h
  exact ⟨_, s1, by unfold toT; rw [e1], h⟩
theorem z_Td (h : Ok (fk env st) fun y s1 => ∃ k, keysD y = some k ∧ Ok (fe env s1) fun d s2 => QT ([k], [d]) s2) : Ok (lTd fk fe env st) QT := by
  obtain ⟨y, s1, e1, k, e2, d, s2, e3, q⟩ := h
  exact ⟨_, s2, by unfold lTd; rw [e1]; dsimp only; rw [e2]; dsimp only; rw [e3], q⟩
theorem z_ownT (h : Ok (f env st) fun d s => QS (.nx (env.set i (.ownT d.1 d.2))) s) : Ok (sOwnT i f env st) QS := by
  obtain ⟨d, s1, e1, h⟩ := h
  exact ⟨_, s1, by unfold sOwnT; rw [e1], h⟩
theorem z_putT (h : Ok (fe env st) fun d s1 => Ok (fk env s1) fun y s2 => ∃ ks vs k, env[i]? = some (.ownT ks vs) ∧ keysD y = some k ∧ ks.length < 1000000 ∧ QS (.nx (env.set i (.ownT (putKDT (ks, vs) k d).1 (putKDT (ks, vs) k d).2))) s2) : Ok (sPutT i fk fe env st) QS := by
  obtain ⟨d, s1, e1, y, s2, e2, ks, vs, k, e3, e4, l, q⟩ := h
  exact ⟨_, s2, by unfold sPutT; rw [e1]; dsimp only; rw [e2]; dsimp only; rw [e3]; dsimp only; rw [e4]; dsimp only; rw [if_pos l], q⟩
theorem z_frzT {f : SS} (h : Ok (f (frzT i env) st) QS) : Ok (sFrzT i f env st) QS := h
theorem z_par3T (h : Ok (fa env st) fun x s1 => Ok (fb env s1) fun y s2 => Ok (f env s2) fun z s3 => QS (.nx (((env.set i (.val x)).set j (.val y)).set l (.ownT z.1 z.2))) s3) : Ok (sPar3T i j l fa fb f env st) QS := by
  obtain ⟨x, s1, e1, y, s2, e2, z, s3, e3, q⟩ := h
  exact ⟨_, s3, by unfold sPar3T; rw [e1]; dsimp only; rw [e2]; dsimp only; rw [e3], q⟩
end
/-! ### texts of dicts and of great numbers -/
section
variable {s : Sto} {Q : D → Prop} {d : D} {xs : List D} {ps : List PyData} {n : Nat}
end
end LW

/-! LwKa: texts: parts of texts, str(n), int(text), abs, join, startswith; defs as values. -/
namespace LW
open PySem L2 PyProof.Rows
/-! ### parts of texts -/
section
variable {mg : Glob} {X : Cx} {e : Expr} {lo hi : Option Expr} {pos p2 : Pos} {f : SE} {gl gh : SO}
end
/-! ### str(n), int(text), abs(n) -/
section
variable {mg : Glob} {X : Cx} {e : Expr} {es : List Expr} {p pos : Pos} {f : SA}
end
/-! ### sep.join(xs), text.startswith(word, at) -/
def eJoin (fo fa : SE) : SE := fun env st => match fo env st with
  | some (.str a, s1) => (match fa env s1 with
    | some (x, s2) => (match lstS s2 x with
      | some ys => if (ys.map (·.length)).sum + ys.length * a.length ≤ 1000000 then some (.str (Txt.join a ys), s2) else none
      | none => none)
    | none => none)
  | _ => none
def eSw3 (fo : SE) (fs : SA) : SE := fun env st => match fo env st with
  | some (.str a, s1) => (match fs env s1 with
    | some ([.str b, .int i], s2) => some (.bl (Txt.startswith3 a b i), s2)
    | _ => none)
  | _ => none
section
variable {mg : Glob} {X : Cx} {o e : Expr} {es : List Expr} {apos pos : Pos} {fo fa : SE} {fs : SA}
end
/-! ### defs as values -/
section
variable {X : Cx} {k : Nat} {ps : List Str} {g : FM} {x y : Str} {p pos : Pos} {e : Expr} {es : List Expr} {fs : SA} {st : Stmt}
end
end LW

/-! LwKb: how mirrors with texts run. -/
namespace LW
open PySem L2 PyProof.Rows
section
variable {env : Env} {st : Sto} {Q : D → Sto → Prop} {fo fa : SE} {fs : SA} {g : FM} {i : Nat} {nm : Str}
theorem z_join (h : Ok (fo env st) fun d s1 => ∃ a, d = .str a ∧ Ok (fa env s1) fun x s2 => ∃ ys, lstS s2 x = some ys ∧ (ys.map (·.length)).sum + ys.length * a.length ≤ 1000000 ∧ Q (.str (Txt.join a ys)) s2) : Ok (eJoin fo fa env st) Q := by
  obtain ⟨d, s1, e1, a, rfl, x, s2, e2, ys, e3, l, q⟩ := h
  exact ⟨_, s2, by unfold eJoin; rw [e1]; dsimp only; rw [e2]; dsimp only; rw [e3]; dsimp only; rw [if_pos l], q⟩
theorem z_sw3 (h : Ok (fo env st) fun d s1 => ∃ a, d = .str a ∧ Ok (fs env s1) fun ds s2 => ∃ b i, ds = [.str b, .int i] ∧ Q (.bl (Txt.startswith3 a b i)) s2) : Ok (eSw3 fo fs env st) Q := by
  obtain ⟨d, s1, e1, a, rfl, ds, s2, e2, b, i, rfl, q⟩ := h
  exact ⟨_, s2, by unfold eSw3; rw [e1]; dsimp only; rw [e2], q⟩
end
end LW

/-! LwLa: errors of own classes are made: by place, by name, without a value. (The first four proofs are turned from those for calls without names.) -/
namespace PySem
namespace LeafX
open PySem.W PySem.Calls PyProof.Rows PySem.HandSPX
section
variable {M : Model} {A : Around} {E : Value → Shared → Prop} {h : Heap} {g : Array GenState} {d : Drawn} {t : Nat} {os : OsState}
variable {nm q : Str} {C N : Addr} {bs bm bmB : List Value} {hdct : Bool} {sn : List Str} {sub : List Value} {ab : Bool} {col : Option Bool} {dd : Option Addr} {k0 k1 k2 k3 k5 : Option Value} {B newId initId : String} {kw : List (Str × Value)}

end
section
variable {prog : Program} {w : World} {A : Around} {E : Value → Shared → Prop} {R : Result → Shared → Prop} {h : Heap} {g : Array GenState} {d : Drawn} {t : Nat} {os : OsState}
variable {nm q : Str} {C N : Addr} {bs bm bmB : List Value} {hdct : Bool} {sn : List Str} {sub : List Value} {ab : Bool} {col : Option Bool} {dd : Option Addr} {k0 k1 k2 k3 k5 : Option Value} {B newId initId : String} {kw : List (Str × Value)}

end
section
variable {prog : Program} {w : World} {A : Around} {E : Value → Shared → Prop} {R : Result → Shared → Prop} {s : Shared} {K : Frag} {mg mb : Str → Option Value} {C fI : Addr} {qual : Str}
end
end LeafX
end PySem

/-! LwLb: errors as data: made, their value, isinstance of them. (The first three proofs are turned from those for an error without a dict.) -/
namespace PySem.W
open PySem PySem.Spec PySem.Calls PyProof.Rows
section
variable {prog : Program} {w : World} {A : Around} {E : Value → Shared → Prop} {s : Shared} {K : Frag} {x D : Addr} {ox : Obj}
end
end PySem.W
namespace LW
open PySem L2 PyProof.Rows
section
variable {X : Cx} {C fI : Addr} {qual x : Str} {pins : List (Addr × Obj)} {σ : L2.St} {H1 : Hp} {s : Shared} {us : List Value} {kw : List (Str × Value)} {u : Value} {v : V} {Q : VK} {k : Nat}
end
end LW

/-! LwLc: errors as data, as mirrors see them; xs.pop(); repr of any thing. -/
namespace LW
open PySem L2 PyProof.Rows
section
variable {mg : Glob} {N : Prot} {c : List Addr} {H : Hp} {st : Sto} {v : V} {x : D} {a d C : Addr} {cn : Str}
end
/-- C(e); C(); C() of a class without an own __init__; e.value -/
def eErr (cn : Str) (f : SE) : SE := fun env st => match f env st with
  | some (d, s1) => some (.err cn [d], s1)
  | none => none
def eErr0 (cn : Str) : SE := fun _ st => some (.err cn [.non], st)
def eErrB (cn : Str) : SE := fun _ st => some (.err cn [], st)
section
variable {mg : Glob} {X : Cx} {e : Expr} {f : SE} {p pos kp : Pos} {cn : Str} {k : Nat} {es : List Str}
end
/-! ### isinstance of an error -/
theorem RepT.err {mg : Glob} {N : Prot} {c : List Addr} {H : Hp} {u : V} {cn : Str} {vs : List D} (h : RepT mg N c H u (.err cn vs)) : ∃ (a C : Addr) (d : Option Addr), u = .ref a ∧ mg.mg cn = some (.ref C) ∧ H a = some (ErO C d a) ∧ ∀ dx, d = some dx → ∃ fs, H dx = some (.xd fs) := by
  rcases h with h | ⟨_, _, _, _, e, _⟩
  · cases h with
    | err0 hc ha n => exact ⟨_, _, _, rfl, hc, ha, fun _ e => nomatch e⟩
    | err1 hc ha n hd nd r => exact ⟨_, _, _, rfl, hc, ha, fun _ e => by cases e; exact ⟨_, hd⟩⟩
  · cases e
/-! ### repr -/
/-! ### xs.pop() -/
section
variable {mg : Glob} {X : Cx} {o : Expr} {fo : SE} {apos cpos pos : Pos}
end
end LW

/-! LwLd: errors as data: forward rules; the facts at the head. -/
namespace LW
open PySem L2 PyProof.Rows
section
variable {env : Env} {st : Sto} {Q : D → Sto → Prop} {f fo : SE} {cn : Str} {es : List Str} {QS : Out → Sto → Prop} {QD : D → Prop} {s : Sto}
theorem z_err (h : Ok (f env st) fun d s => Q (.err cn [d]) s) : Ok (eErr cn f env st) Q := by
  obtain ⟨d, s1, e, q⟩ := h
  exact ⟨_, _, by unfold eErr; rw [e], q⟩
theorem z_err0 (q : Q (.err cn [.non]) st) : Ok (eErr0 cn env st) Q := ⟨_, _, rfl, q⟩
theorem z_errB (q : Q (.err cn []) st) : Ok (eErrB cn env st) Q := ⟨_, _, rfl, q⟩
end
/-! ### facts -/
end LW

/-! LwMa: x.split(y), x.partition(y), texts in order (>=), xs.index(text), xs.count(text), None in xs. -/
namespace PySem.SeqAt
open PySem PySem.EqNone
section
variable {A : Around} {s : Shared}
end
end PySem.SeqAt
namespace LW
open PySem PySem.Spec L2 PyProof.Rows
/-! ### None in a list -/
section
variable {X : Cx} {pins : List (Addr × Obj)} {σ : L2.St} {H : Hp} {s : Shared}
end
section
variable {mg : Glob} {N : Prot} {c : List Addr} {H : Hp} {st : Sto}
end
/-! ### texts in order -/
/-! ### split, partition, index, count -/
section
variable {mg : Glob} {X : Cx} {a b o e : Expr} {es : List Expr} {apos cpos pos : Pos} {fo fe fa fb : SE}
end
section
variable {mg : Glob} {X : Cx} {o e : Expr} {apos cpos pos : Pos} {fo fe : SE}
end
end LW

/-! LwMb: f(name=e, ..): a def called by its parameters' names; a call of a def that a slot holds, one of several. -/
namespace LW
open PySem PySem.Spec L2 PyProof.Rows
/-- in the order of the parameters -/
structure Pm (n : Nat) (pD : List D → List D) (pV : List V → List V) (pU : List Value → List Value) : Prop where
  u : ∀ {zs : List V} {ws : List Value}, zs.length = n → Vals zs ws → Vals (pV zs) (pU ws)
  d : ∀ {mg : Glob} {N : Prot} {c : List Addr} {H : Hp} {vs : List V} {ds : List D}, vs.length = n → RepL mg N c H vs ds → RepL mg N c H (pV vs) (pD ds)
  nv : ∀ {zs : List V}, (pV zs).length = n → zs.length = n
  m : ∀ {ds : List D}, (pD ds).length = n → ds.length = n
  k : ∀ {zs : List V}, zs.length = n → (pV zs).length = n
def eCallP (g : FM) (pD : List D → List D) (f : SA) : SE := fun env st => match f env st with
  | none => none
  | some (ds, s1) => g (pD ds) s1
section
variable (P : Program) (w : World) (K : PySem.W.Frag) (mg : Str → Option Value) (base : Heap)
end
section
variable {P : Program} {w : World} {K : PySem.W.Frag} {mg : Str → Option Value} {base : Heap} {k : Nat} {x : Str} {st : Stmt} {nm ps ks : List Str} {body : SS} {pD : List D → List D} {pV : List V → List V} {pU : List Value → List Value}
end
section
variable {mg : Glob} {X : Cx} {k : Nat} {ps ks : List Str} {g : FM} {pD : List D → List D} {x : Str} {p pos kp : Pos} {e : Expr} {fs : SA} {f : SE} {kws : List Keyword} {nm : Option Str}
end
/-! ### one of several defs -/
section
variable (P : Program) (w : World) (K : PySem.W.Frag) (mg : Str → Option Value) (base : Heap)
end
section
variable {P : Program} {w : World} {K : PySem.W.Frag} {mg : Str → Option Value} {base : Heap} {j k : Nat} {x : Str} {ps : List Str} {g : FM} {tbl : List (Str × FM)}
end
section
variable {X : Cx} {k : Nat} {tbl : List (Str × FM)} {y : Str} {p pos : Pos} {e : Expr} {es : List Expr} {fs : SA}
end
/-! ### forward -/
section
variable {env : Env} {st : Sto} {Q : D → Sto → Prop} {g : FM} {pD : List D → List D} {f : SA} {tbl : List (Str × FM)} {i : Nat} {x : Str}
end
end LW

/-! LwNa: == and != of dicts whose keys are tuples. (The walk over the pairs is turned from the one for keys that are texts.) -/
namespace PySem.W
open PySem PySem.Calls PyProof.Rows PyProof.V PySem.Spec
section
variable {prog : Program} {w : World} {K : Type} [DecidableEq K] {knd : HeapKind prog w K} {A : Around} {E : Value → Shared → Prop} {s : Shared}
inductive HitsH {K : Type} [DecidableEq K] (A : Around) (s : Shared) (kb : List (K × Addr × Value)) : List (K × Addr × Value) → Bool → Prop
  | nil : HitsH A s kb [] true
  | miss {k : K} {b : Addr} {v : Value} {r : List (K × Addr × Value)} : atKey kb k = none → HitsH A s kb ((k, b, v) :: r) false
  | hit {k : K} {b c : Addr} {v y : Value} {r : List (K × Addr × Value)} {e t : Bool} : atKey kb k = some (c, y) → SeqAt.EqAt A s v y e → HitsH A s kb r t → HitsH A s kb ((k, b, v) :: r) (e && t)
end
end PySem.W

/-! LwNb: == and != of dicts with flat values, == of lists of them, a dict in a list of them. (The walk of list.__contains__ is turned from the one for items that may be asked in every model.) -/
namespace PySem.SeqAt
open PySem PySem.Calls PyProof.Rows AutoSeq1 MeetsSeq
section
variable {prog : Program} {w : World}
variable {A : Around} {E : Value → Shared → Prop} {s : Shared}
end
end PySem.SeqAt
namespace LW
open PySem PySem.Spec L2 PyProof.Rows
/-! ### by values -/
def hitV {κ : Type} [DecidableEq κ] (kws : List (κ × V)) (q : κ × V) : Bool := match valV kws q.1 with
  | some w => eqV q.2 w
  | none => false
def eqKV {κ : Type} [DecidableEq κ] (kvs kws : List (κ × V)) : Bool := kvs.length == kws.length && kvs.all (hitV kws)
def flatK {κ : Type} (kvs : List (κ × V)) : Bool := kvs.all fun q => flatV q.2
/-- the dicts at a and c are equal, or not -/
def EqDV (H : Hp) (a c : Addr) (b : Bool) : Prop := (∃ kvs kws, Rd H a (.dK kvs) ∧ Rd H c (.dK kws) ∧ flatK kvs = true ∧ flatK kws = true ∧ b = eqKV kvs kws) ∨
  ∃ kvs kws, Rd H a (.dT kvs) ∧ Rd H c (.dT kws) ∧ flatK kvs = true ∧ flatK kws = true ∧ b = eqKV kvs kws
section
variable {X : Cx} {pins : List (Addr × Obj)} {σ : L2.St} {H : Hp} {s : Shared}
end
end LW

/-! LwNc: == and != of dicts with flat values, as data; lists of them. -/
namespace LW
open PySem PySem.Spec L2 PyProof.Rows
def getG {κ : Type} [DecidableEq κ] : List κ → List D → κ → Option D
  | k :: ks, d :: ds, x => if k = x then some d else getG ks ds x
  | _, _, _ => none
def flatD : D → Bool
  | .non => true
  | .bl _ => true
  | .int _ => true
  | .str _ => true
  | _ => false
def eqFD : D → D → Bool
  | .non, .non => true
  | .bl a, .bl b => a == b
  | .bl a, .int b => (if a then 1 else 0) == b
  | .int a, .bl b => a == (if b then 1 else 0)
  | .int a, .int b => a == b
  | .str a, .str b => a == b
  | _, _ => false
def hitD {κ : Type} [DecidableEq κ] (ls : List κ) (ys : List D) (p : κ × D) : Bool := match getG ls ys p.1 with
  | some w => eqFD p.2 w
  | none => false
def eqGD {κ : Type} [DecidableEq κ] (ks : List κ) (xs : List D) (ls : List κ) (ys : List D) : Bool := ks.length == ls.length && (ks.zip xs).all (hitD ls ys)
def eqDD : D → D → Option Bool
  | .dic ks xs, .dic ls ys => if xs.all flatD = true ∧ ys.all flatD = true then some (eqGD ks xs ls ys) else none
  | .dit ks xs, .dit ls ys => if xs.all flatD = true ∧ ys.all flatD = true then some (eqGD ks xs ls ys) else none
  | _, _ => none
section
variable {mg : Glob} {N : Prot} {c : List Addr} {H : Hp} {st : Sto}
end
/-! ### two dicts -/
def oEqDD (neg : Bool) : D → D → Sto → Option D := fun x y _ => match eqDD x y with
  | some b => some (.bl (if neg then !b else b))
  | none => none
/-! ### lists of dicts; a dict in one -/
section
variable {X : Cx} {pins : List (Addr × Obj)} {σ : L2.St} {H : Hp} {s : Shared}
end
end LW

/-! LwNd: == of lists of dicts, a dict in a list of dicts. -/
namespace LW
open PySem PySem.Spec L2 PyProof.Rows
/-- items, told to be dicts -/
inductive EqDs (H : Hp) : List V → List V → List Bool → Prop where
  | nil : EqDs H [] [] []
  | cons {a c : Addr} {b : Bool} {vs us : List V} {bs : List Bool} (h : EqDV H a c b) (t : EqDs H vs us bs) : EqDs H (.ref a :: vs) (.ref c :: us) (b :: bs)
theorem EqDs.at {H : Hp} : ∀ {vs us : List V} {bs : List Bool}, EqDs H vs us bs → ∀ {j : Nat} {v u : V}, vs[j]? = some v → us[j]? = some u → ∃ a c b, v = .ref a ∧ u = .ref c ∧ bs[j]? = some b ∧ EqDV H a c b
  | _, _, _, .cons h t, 0, v, u, e1, e2 => by
    cases e1
    cases e2
    exact ⟨_, _, _, rfl, rfl, rfl, h⟩
  | _, _, _, .cons h t, j + 1, v, u, e1, e2 => EqDs.at t (j := j) (by simpa using e1) (by simpa using e2)
theorem EqDs.len {H : Hp} : ∀ {vs us : List V} {bs : List Bool}, EqDs H vs us bs → vs.length = us.length ∧ bs.length = vs.length
  | _, _, _, .nil => ⟨rfl, rfl⟩
  | _, _, _, .cons _ t => ⟨by rw [List.length_cons, List.length_cons, t.len.1], by rw [List.length_cons, List.length_cons, t.len.2]⟩
section
variable {X : Cx}
end
/-! ### as data -/
def eqLD : List D → List D → Option (List Bool)
  | [], [] => some []
  | x :: xs, y :: ys => match eqDD x y with
    | some b => match eqLD xs ys with
      | some bs => some (b :: bs)
      | none => none
    | none => none
  | _, _ => none
def oEqLD : D → D → Sto → Option D := fun x y st => match lstR st x, lstR st y with
  | some xs, some ys => if xs.length = ys.length then (match eqLD xs ys with
    | some bs => some (.bl (bs.all id))
    | none => none) else some (.bl false)
  | _, _ => none
def oInLD (neg : Bool) : D → D → Sto → Option D := fun x y st => match lstR st y with
  | some xs => (match eqLD xs (List.replicate xs.length x) with
    | some bs => some (.bl (if neg then !bs.any id else bs.any id))
    | none => none)
  | none => none
/-! ### the rules -/
section
variable {mg : Glob} {X : Cx} {a b : Expr} {pos : Pos} {fa fb : SE}
end
end LW

/-! LwNe: sorted(xs) of comparable data (numbers, texts, tuples and lists of these). -/
namespace LW
open PySem PySem.Spec L2 PyProof.Rows
/-! ### as data -/
end LW

/-! LwNf: {k: v for ..} with keys that are tuples. -/
namespace L2
open PySem PySem.Spec PyProof.Rows
section
variable {X : Cx}
end
end L2
namespace LW
open PySem L2 PyProof.Rows
def dcMT (chk : Sto → Bool) (asg : D → Env → Option Env) (cond : SB) (fk fv : SE) (env0 : Env) : List D → DKT → Sto → Option (DKT × Sto)
  | [], acc, st => if chk st = true then some (acc, st) else none
  | d :: ds, acc, st => if chk st = true then (match asg d env0 with
    | none => none
    | some e1 => match cond e1 st with
      | none => none
      | some (false, s1) => dcMT chk asg cond fk fv env0 ds acc s1
      | some (true, s1) => match fk e1 s1 with
        | none => none
        | some (y, s2) => match fv e1 s2 with
          | none => none
          | some (z, s3) => match keysD y with
            | none => none
            | some k => dcMT chk asg cond fk fv env0 ds (putKDT acc k z) s3) else none
def dCompT (fi : Fx Src) (asg : D → Env → Option Env) (cond : SB) (fk fv : SE) (vs : List Nat) : Fx DKT := fun env st => match fi env st with
  | none => none
  | some (xs, s1) => if xs.1.length ≤ 1000000 then dcMT xs.2 asg cond fk fv (wipeE env vs) xs.1 ([], []) s1 else none
section
variable {mg : Glob} {fi : Fx Src} {asg : D → Env → Option Env} {cond : SB} {fk fv : SE} {g : TG} {is vs : List Nat} {own : List (Str × Nat)}
variable {X : Cx} {kx vx tg iter : Expr} {ifs : List Expr} {scope : Scope} {pos : Pos}
end
end LW

/-! LwPa: list(d.values()); dicts with tuple keys: k in d, the frame's own read, dict(d) of one key at most. -/
namespace LW
open PySem L2 PyProof.Rows
/-! ### arguments by name, in the other order -/
theorem Vals.len : ∀ {zs : List V} {ws : List Value}, Vals zs ws → zs.length = ws.length
  | [], [], .nil => rfl
  | _ :: _, _ :: _, .cons _ t => congrArg Nat.succ (Vals.len t)
theorem Vals.app : ∀ {zs : List V} {ws : List Value} {zs' : List V} {ws' : List Value}, Vals zs ws → Vals zs' ws' → Vals (zs ++ zs') (ws ++ ws')
  | [], [], _, _, .nil, h => h
  | _ :: _, _ :: _, _, _, .cons a t, h => .cons a (Vals.app t h)
/-! ### list(d.values()) -/
def eVals (fo : SE) : Fx (List D) := fun env st => match fo env st with
  | some (x, s1) => (match dicG s1 x with
    | some p => some (p.2, s1)
    | none => none)
  | none => none
/-! ### k in d, d[k]: dicts with tuple keys -/
def eGetOT (i : Nat) (fk : SE) : SE := fun env st => match env[i]? with
  | some (.ownT ks vs) => (match fk env st with
    | some (y, s1) => (match keysD y with
      | some k => (match getDT ks vs k with
        | some d => some (d, s1)
        | none => none)
      | none => none)
    | none => none)
  | _ => none
def eInOT (i : Nat) (fk : SE) : SE := fun env st => match env[i]? with
  | some (.ownT ks vs) => (match fk env st with
    | some (y, s1) => (match keysD y with
      | some k => some (.bl (memT k ks), s1)
      | none => none)
    | none => none)
  | _ => none
section
variable {mg : Glob} {X : Cx} {a b ej : Expr} {pos : Pos} {fa fb fj : SE}
end
/-! ### dict(d), one key at most -/
end LW

/-! LwPb: loops and comprehensions over written lists, step by step; forward rules of LwPa. -/
namespace LW
open PySem L2 PySem.Spec PyProof.Rows
section
variable {env env0 e1 : Env} {st s : Sto} {Q : D → Sto → Prop} {QL : List D → Sto → Prop} {QK : DK → Sto → Prop} {QT : DKT → Sto → Prop} {QS : Out → Sto → Prop} {QB : Bool → Sto → Prop} {i : Nat} {fe fk fv elt : SE} {f : SS} {cond : SB} {chk : Sto → Bool} {asg : D → Env → Option Env} {d : D} {ds : List D} {fs : SA}
theorem z_lpN (hc : chk st = true) (h : QS (.nx env) st) : Ok (loopM chk asg f [] env st) QS := ⟨_, st, by unfold loopM; rw [if_pos hc], h⟩
theorem z_lpC (hc : chk st = true) (ha : asg d env = some e1) (h : Ok (f e1 st) fun o s2 => match o with
    | .nx e2 => Ok (loopM chk asg f ds e2 s2) QS
    | .ct e2 => Ok (loopM chk asg f ds e2 s2) QS
    | .bk e2 => QS (.nx e2) s2
    | .rt r => QS (.rt r) s2) : Ok (loopM chk asg f (d :: ds) env st) QS := by
  obtain ⟨o, s2, e, h⟩ := h
  cases o with
  | nx e2 =>
    obtain ⟨o, s3, e3, q⟩ := h
    exact ⟨o, s3, by unfold loopM; rw [if_pos hc, ha]; dsimp only; rw [e]; exact e3, q⟩
  | ct e2 =>
    obtain ⟨o, s3, e3, q⟩ := h
    exact ⟨o, s3, by unfold loopM; rw [if_pos hc, ha]; dsimp only; rw [e]; exact e3, q⟩
  | bk e2 => exact ⟨_, s2, by unfold loopM; rw [if_pos hc, ha]; dsimp only; rw [e], h⟩
  | rt r => exact ⟨_, s2, by unfold loopM; rw [if_pos hc, ha]; dsimp only; rw [e], h⟩
end
end LW

/-! LwPc: d.get(k); d[k], e[l] = two things, dicts of the frame's own. -/
namespace LW
open PySem L2 PyProof.Rows
section
variable {mg : Glob} {X : Cx} {o e : Expr} {apos cpos : Pos} {fo fk : SE}
end
/-! ### two own dicts written at once -/
def pD : TSet := fun o y v H Q => ∃ a H', o = .ref a ∧ DPut H a y v H' ∧ Q H'
section
variable {mg : Glob} {X : Cx} {e ei ej : Expr} {pos tpos p1 p2 p3 p4 : Pos} {fe fi fj : SE} {E : En} {N : Prot} {c : List Addr} {env env' : Env} {st st' : Sto} {σ : L2.St} {H : Hp} {v : V} {d : D}
end
/-! ### x = {k: v for ..}, the dict in a cell -/
section
variable {mg : Glob} {X : Cx} {kx vx tg iter : Expr} {ifs : List Expr} {scope : Scope} {own : List (Str × Nat)} {pos spos py : Pos} {fi : Fx Src} {asg : D → Env → Option Env} {cond : SB} {fk fv : SE} {g : TG} {is : List Nat}
end
end LW

/-! LwPd: list(zip(xs, ys)). (The loop is turned from that for list(d.items()).) -/
namespace LwZ
open PySem PySem.W PySem.Calls PyProof.Rows PyProof.V PySem.Spec L2
theorem zip_nolen : typeLookup (.type "zip") "__len__" = pure none := am_miss_of_fast (by decide +kernel)
theorem zip_nohint : typeLookup (.type "zip") "__length_hint__" = pure none := am_miss_of_fast (by decide +kernel)
/-- the zip z over the lists at l1 and l2 behind i turns; S: where the new list stands -/
structure ZSt (z TI TO i1 i2 l1 l2 S : Addr) (xs ys : Array Value) (i : Nat) (h : Heap) : Prop where
  ti : IsPair h TI (.ref i1) (.ref i2)
  a1 : h.IsListIter i1 l1 i
  a2 : h.IsListIter i2 l2 i
  b1 : h.IsList l1 xs
  b2 : h.IsList l2 ys
  hz : (IsZip h z TI TO .none ∧ ∃ a b, IsPair h TO a b) ∨ ∃ T f oT, IsZipHeld h z TI TO T f ∧ h.get? T = some oT ∧ T ≠ z ∧ T ≠ i1 ∧ T ≠ i2 ∧ T ≠ S
/-- what a turn may write -/
structure ZOff (z TI TO i1 i2 l1 l2 S : Addr) : Prop where
  z : z ≠ S
  ti : TI ≠ S
  to : TO ≠ S
  a1 : i1 ≠ S
  a2 : i2 ≠ S
  b1 : l1 ≠ S
  b2 : l2 ≠ S
section
variable {prog : Program} {w : World} {A : Around} {E : Value → Shared → Prop} {s : Shared} {z TI TO i1 i2 l1 l2 S : Addr} {xs ys : Array Value} {i : Nat}
theorem ZSt.keep {h h' : Heap} (x : ZSt z TI TO i1 i2 l1 l2 S xs ys i h) (F : ZOff z TI TO i1 i2 l1 l2 S) (hk : ∀ b o, b ≠ S → h.get? b = some o → h'.get? b = some o) : ZSt z TI TO i1 i2 l1 l2 S xs ys i h' := by
  obtain ⟨ti, a1, a2, b1, b2, hz⟩ := x
  refine ⟨hk _ _ F.ti ti, a1.at fun o e => hk _ o F.a1 e, a2.at fun o e => hk _ o F.a2 e, b1.at fun o e => hk _ o F.b1 e, b2.at fun o e => hk _ o F.b2 e, ?_⟩
  rcases hz with ⟨q, a, b, t⟩ | ⟨T, f, oT, q, t, r1, r2, r3, r4⟩
  · exact .inl ⟨hk _ _ F.z q, a, b, hk _ _ F.to t⟩
  · exact .inr ⟨T, f, oT, hk _ _ F.z q, hk _ _ r4 t, r1, r2, r3, r4⟩
theorem ZSt.type (x : ZSt z TI TO i1 i2 l1 l2 S xs ys i s.heap) : s.TypeIs (.ref z) "zip" := by
  rcases x.hz with ⟨q, _⟩ | ⟨T, f, oT, q, _⟩
  · exact ⟨_, q, rfl⟩
  · exact ⟨_, q, rfl⟩
theorem z_item {x y : Value} {Q : Option Value → Shared → Prop} (D : ZipApart z TI TO i1 i2 l1 l2) (st : ZSt z TI TO i1 i2 l1 l2 S xs ys i s.heap) (hS : S < s.heap.objs.size) (hx : xs[i]? = some x) (hy : ys[i]? = some y)
    (hQ : ∀ h', ZSt z TI TO i1 i2 l1 l2 S xs ys (i + 1) h' → IsPair h' s.heap.objs.size x y → h'.objs.size = s.heap.objs.size + 1 →
      (∀ c o, c ≠ z → c ≠ TO → c ≠ i1 → c ≠ i2 → s.heap.get? c = some o → h'.get? c = some o) → Q (some (.ref s.heap.objs.size)) { s with heap := h' }) : wpAny (model prog w) A (pyNext (.ref z)) Q E s := by
  obtain ⟨ti, a1, a2, b1, b2, hz⟩ := st
  have lt : ∀ {c o}, s.heap.get? c = some o → s.heap.objs.size ≠ c := fun e => Nat.ne_of_gt (Heap.lt_size e)
  have n1 : s.heap.objs.size ≠ i1 := let ⟨_, e, _⟩ := a1; lt e
  have n2 : s.heap.objs.size ≠ i2 := let ⟨_, e, _⟩ := a2; lt e
  rcases hz with ⟨q, a, b, t⟩ | ⟨T, f, oT, q, t, r1, r2, r3, r4⟩
  · refine wpAny_pyNext_zip_item D q ti t a1 a2 b1 b2 hx hy fun h' q' _ c1 c2 p hs hk => ?_
    exact hQ h' ⟨hk _ _ D.TIz D.TITO D.TIi1 D.TIi2 ti, c1, c2, b1.at fun o e => hk _ o D.l1z D.l1TO D.l1i1 D.l1i2 e, b2.at fun o e => hk _ o D.l2z D.l2TO D.l2i1 D.l2i2 e,
      .inr ⟨s.heap.objs.size, false, _, q', p, lt q, n1, n2, Nat.ne_of_gt hS⟩⟩ p hs hk
  · refine wpAny_pyNext_zip_item_held D q t ti a1 a2 b1 b2 hx hy fun h' q' c1 c2 p hs hk => ?_
    exact hQ h' ⟨hk _ _ D.TIz D.TIi1 D.TIi2 ti, c1, c2, b1.at fun o e => hk _ o D.l1z D.l1i1 D.l1i2 e, b2.at fun o e => hk _ o D.l2z D.l2i1 D.l2i2 e,
      .inr ⟨T, true, oT, q', hk _ _ r1 r2 r3 t, r1, r2, r3, r4⟩⟩ p hs fun c o k1 _ k3 k4 e => hk c o k1 k3 k4 e
theorem z_done {Q : Option Value → Shared → Prop} (hh : A.handled = none) (D : ZipApart z TI TO i1 i2 l1 l2) (st : ZSt z TI TO i1 i2 l1 l2 S xs ys i s.heap) (he : xs[i]? = none ∨ ys[i]? = none)
    (hQ : ∀ h', (∀ c o, c ≠ z → c ≠ TO → c ≠ i1 → c ≠ i2 → s.heap.get? c = some o → h'.get? c = some o) → Q none { s with heap := h' }) : wpAny (model prog w) A (pyNext (.ref z)) Q E s := by
  obtain ⟨ti, a1, a2, b1, b2, hz⟩ := st
  rcases hz with ⟨q, a, b, t⟩ | ⟨T, f, oT, q, t, r1, r2, r3, r4⟩
  · exact wpAny_pyNext_zip_end hh D q ti t a1 a2 b1 b2 he fun h' hk => hQ h' hk
  · exact wpAny_pyNext_zip_end_held hh D q t ti a1 a2 b1 b2 he fun h' hk => hQ h' fun c o k1 _ k3 k4 e => hk c o k1 k3 k4 e
end
/-- the addresses as hold the pairs, in order; they lie above lo and rise -/
structure ZG (xs ys : Array Value) (lo : Addr) (h : Heap) (as : List Addr) : Prop where
  rise : as.Pairwise (· < ·)
  above : ∀ a ∈ as, lo < a
  pairs : ∀ (j : Nat) (a : Addr), as[j]? = some a → ∃ x y, xs[j]? = some x ∧ ys[j]? = some y ∧ IsPair h a x y
theorem ZG.there {xs ys : Array Value} {lo : Addr} {h : Heap} {as : List Addr} (g : ZG xs ys lo h as) {a : Addr} (ha : a ∈ as) : a < h.objs.size := by
  obtain ⟨j, hj⟩ := List.mem_iff_getElem?.mp ha
  obtain ⟨_, _, _, _, e⟩ := g.pairs j a hj
  exact Heap.lt_size e
section
variable {prog : Program} {w : World} {A : Around} {s : Shared} {R : Result → Shared → Prop} {z TI TO i1 i2 l1 l2 S : Addr} {xs ys : Array Value}
theorem z_loop (hh : A.handled = none) (D : ZipApart z TI TO i1 i2 l1 l2) (F : ZOff z TI TO i1 i2 l1 l2 S) (lz : z < S) (lt : TO < S) (l1' : i1 < S) (l2' : i2 < S) (hn : xs.size ≤ sizeLine) (res : Value) {h₁ : Heap}
    (hR : ∀ h' tk acc c as, (∀ b o, b ≠ S → b ≠ z → b ≠ TO → b ≠ i1 → b ≠ i2 → h₁.get? b = some o → h'.get? b = some o) → h'.get? S = some { cls := .type "list", dict := none, data := .seq acc c, slots := #[] } → as.length = min xs.size ys.size → ZG xs ys S h' as →
      acc.toList = as.map Value.ref → R (.ok (.ret res)) { s with heap := h', toks := tk }) :
    ∀ (k i : Nat) (h : Heap) (tk c : Nat) (acc : Array Value) (as : List Addr), min xs.size ys.size - i = k → i ≤ min xs.size ys.size → ZSt z TI TO i1 i2 l1 l2 S xs ys i h → (∀ b o, b ≠ S → b ≠ z → b ≠ TO → b ≠ i1 → b ≠ i2 → h₁.get? b = some o → h.get? b = some o) →
      h.get? S = some { cls := .type "list", dict := none, data := .seq acc c, slots := #[] } → acc.toList = as.map Value.ref → as.length = i → ZG xs ys S h as →
      codeAny (model prog w) A (.builtin "list.extend.loop" ⟨[.ref S, .ref z, res], []⟩) R { s with heap := h, toks := tk } := by
  intro k
  induction k with
  | zero =>
    intro i h tk c acc as hk hi hst hkeep hS hacc hal hG
    have he : xs[i]? = none ∨ ys[i]? = none := by
      rcases Nat.le_total xs.size ys.size with q | q
      · exact .inl (Array.getElem?_eq_none (by omega))
      · exact .inr (Array.getElem?_eq_none (by omega))
    refine codeAny_builtin PySem.F.entry_extend_loop ?_
    rw [Around.under_plainId PySem.F.plain_extend_loop _]
    show wpAny _ A.in1 (pyNext (.ref z) >>= _) _ _ _
    refine wpAny_bind (z_done (s := { s with heap := h, toks := tk }) (A := A.in1) hh D hst he fun h' hk' => ?_)
    refine wpAny_pure (hR h' tk acc c as (fun b o c0 c1 c2 c3 c4 e => hk' b o c1 c2 c3 c4 (hkeep b o c0 c1 c2 c3 c4 e)) (hk' S _ F.z.symm F.to.symm F.a1.symm F.a2.symm hS) (by omega) ⟨hG.rise, hG.above, fun j a hj => ?_⟩ hacc)
    obtain ⟨x, y, e1, e2, e3⟩ := hG.pairs j a hj
    have hb := hG.above a (List.mem_of_getElem? hj)
    exact ⟨x, y, e1, e2, hk' a _ (Nat.ne_of_gt (Nat.lt_trans lz hb)) (Nat.ne_of_gt (Nat.lt_trans lt hb)) (Nat.ne_of_gt (Nat.lt_trans l1' hb)) (Nat.ne_of_gt (Nat.lt_trans l2' hb)) e3⟩
  | succ k ih =>
    intro i h tk c acc as hk hi hst hkeep hS hacc hal hG
    have g1 : i < xs.size := by omega
    have g2 : i < ys.size := by omega
    have hsz : acc.size = i := by rw [← Array.length_toList, hacc, List.length_map, hal]
    refine codeAny_builtin PySem.F.entry_extend_loop ?_
    rw [Around.under_plainId PySem.F.plain_extend_loop _]
    show wpAny _ A.in1 (pyNext (.ref z) >>= _) _ _ _
    refine wpAny_bind (z_item (s := { s with heap := h, toks := tk }) D hst (Heap.lt_size hS) (Array.getElem?_eq_getElem g1) (Array.getElem?_eq_getElem g2) fun h' hst' ht hz hkp => ?_)
    dsimp only at ht hz hkp ⊢
    have hS' := hkp S _ F.z.symm F.to.symm F.a1.symm F.a2.symm hS
    have up : ∀ b o, b ≠ S → h'.get? b = some o → (h'.update S (Obj.mapSeq (·.push (Value.ref h.objs.size)))).get? b = some o := fun b o hb e => (Heap.get?_update_other _ _ (Ne.symm hb)).trans e
    have hSl : S < h.objs.size := Heap.lt_size hS
    show wpAny _ A.in1 (updateSeq S (·.push (Value.ref h.objs.size)) >>= _) _ _ _
    refine wpAny_bind ?_
    refine wpAny_updateSeq hS' rfl (wpAny_pure ⟨plainId_quiet PySem.F.plain_extend_loop _, ih (i + 1) _ tk _ (acc.push (Value.ref h.objs.size)) (as ++ [h.objs.size]) (by omega) (by omega) (hst'.keep F up)
      (fun b o c0 c1 c2 c3 c4 e => up b o c0 (hkp b o c1 c2 c3 c4 (hkeep b o c0 c1 c2 c3 c4 e))) (Heap.get?_update_self _ hS' rfl) (by rw [Array.toList_push, hacc, List.map_append]; rfl) (by rw [List.length_append, hal]; rfl) ⟨?_, ?_, ?_⟩⟩) (by rw [hsz]; omega) (by show (acc.push (Value.ref h.objs.size)).size ≤ sizeLine + 1; rw [Array.size_push, hsz]; omega)
    · refine List.pairwise_append.mpr ⟨hG.rise, List.pairwise_singleton _ _, fun a ha b hb => ?_⟩
      rw [List.mem_singleton.mp hb]
      exact hG.there ha
    · intro a ha
      rcases List.mem_append.mp ha with ha | ha
      · exact hG.above a ha
      · rw [List.mem_singleton.mp ha]; exact hSl
    · intro j b hj
      rcases Nat.lt_trichotomy j as.length with q | q | q
      · rw [List.getElem?_append_left q] at hj
        obtain ⟨x, y, e1, e2, e3⟩ := hG.pairs j b hj
        have hb := hG.above b (List.mem_of_getElem? hj)
        exact ⟨x, y, e1, e2, up b _ (Nat.ne_of_gt hb) (hkp b _ (Nat.ne_of_gt (Nat.lt_trans lz hb)) (Nat.ne_of_gt (Nat.lt_trans lt hb)) (Nat.ne_of_gt (Nat.lt_trans l1' hb)) (Nat.ne_of_gt (Nat.lt_trans l2' hb)) e3)⟩
      · subst q
        have hb : h.objs.size = b := by simpa using hj
        subst hb
        subst hal
        exact ⟨_, _, Array.getElem?_eq_getElem g1, Array.getElem?_eq_getElem g2, up _ _ (Nat.ne_of_gt hSl) ht⟩
      · have hnone : (as ++ [h.objs.size])[j]? = none := List.getElem?_eq_none (by rw [List.length_append, List.length_singleton]; omega)
        rw [hnone] at hj; cases hj
end
section
variable {prog : Program} {w : World} {A : Around} {E : Value → Shared → Prop} {s : Shared} {z TI TO i1 i2 l1 l2 : Addr} {xs ys : Array Value}
theorem z_init {R : Result → Shared → Prop} (hh : A.handled = none) (D : ZipApart z TI TO i1 i2 l1 l2) (S : Addr) (F : ZOff z TI TO i1 i2 l1 l2 S) (lz : z < S) (lt : TO < S) (l1' : i1 < S) (l2' : i2 < S) (hn : xs.size ≤ sizeLine) (q0 : IsZip s.heap z TI TO .none) (st : ZSt z TI TO i1 i2 l1 l2 S xs ys 0 s.heap)
    (hS : s.heap.get? S = some { cls := .type "list", data := .seq #[] })
    (hR : ∀ h' tk acc c as, (∀ b o, b ≠ S → b ≠ z → b ≠ TO → b ≠ i1 → b ≠ i2 → s.heap.get? b = some o → h'.get? b = some o) → h'.get? S = some { cls := .type "list", dict := none, data := .seq acc c, slots := #[] } → as.length = min xs.size ys.size → ZG xs ys S h' as →
      acc.toList = as.map Value.ref → R (.ok (.ret .none)) { s with heap := h', toks := tk }) :
    wpAny (model prog w) A.in1 (Builtin.«list.__init__» ⟨[.ref S, .ref z], []⟩)
      (fun fin s' => match fin with | .done f => R (.ok f) s' | .again c' => c'.quiet = true ∧ codeAny (model prog w) A c' R s') (fun e s' => R (.error e) s') s := by
  have key : ∀ (h : Heap) (c₁ tk : Nat), (∀ b o, b ≠ S → s.heap.get? b = some o → h.get? b = some o) →
      h.get? S = some { cls := .type "list", data := .seq #[] c₁ } → codeAny (model prog w) A (.builtin "list.extend.loop" ⟨[.ref S, .ref z, .none], []⟩) R { s with heap := h, toks := tk } := by
    intro h c₁ tk hk hS₁
    refine z_loop (s := s) (h₁ := s.heap) hh D F lz lt l1' l2' hn .none hR _ 0 h tk c₁ #[] [] (Nat.sub_zero _) (Nat.zero_le _) (st.keep F hk) (fun b o c0 _ _ _ _ e => hk b o c0 e) hS₁ rfl rfl
      ⟨List.Pairwise.nil, (fun _ ha => nomatch ha), (fun j a hj => by simp at hj)⟩
  show wpAny _ _ (do let old ← Builtin.List.listItems (.ref S); Builtin.List.listUpdate (.ref S) (fun _ => #[]); letGo old.toList.reverse; Builtin.List.listExtendWith (.ref S) (.ref z) .none) _ _ s
  refine wpAny_bind ?_
  unfold Builtin.List.listItems
  refine wpAny_bind (wpAny_seqItems hS rfl (wpAny_pure ?_))
  show wpAny _ _ (updateSeq S (fun _ => #[]) >>= fun _ => letGo (#[] : Array Value).toList.reverse >>= fun _ => Builtin.List.listExtendWith (.ref S) (.ref z) .none) _ _ s
  refine wpAny_bind (wpAny_updateSeq hS rfl ?_)
  have hS₂ := Heap.get?_update_self (Obj.mapSeq (fun _ => (#[] : Array Value))) hS rfl
  have oth : ∀ b o, b ≠ S → s.heap.get? b = some o → (s.heap.update S (Obj.mapSeq (fun _ => (#[] : Array Value)))).get? b = some o :=
    fun b o hb e => (Heap.get?_update_other _ _ (Ne.symm hb)).trans e
  refine wpAny_bind (wpAny_letGo ?_)
  have st2 := st.keep F oth
  unfold Builtin.List.listExtendWith
  refine wpAny_bind (wpAny_typeOf (T := "zip") st2.type ?_)
  have h1 : Builtin.List.listSameRef (.ref S) (.ref z) = false := by simp [Builtin.List.listSameRef, F.z.symm]
  have h2 : (Value.type "zip" == Value.type "list") = false := by decide
  have h3 : (Value.type "zip" == Value.type "tuple") = false := by decide
  simp only [h1, h2, h3, Bool.or_false, Bool.false_eq_true, if_false]
  refine wpAny_bind (wpAny_pyIter_zip (oth z _ F.z q0) ?_)
  all_goals
    refine wpAny_bind (wpAny_holding ?_)
    unfold Builtin.List.listLengthHint
    refine wpAny_bind (wpAny_specialOf st2.type zip_nolen ?_)
    show wpAny _ A.in1 (specialOf (Value.ref z) (Str.ofString "__length_hint__") >>= _) _ _ _
    refine wpAny_bind (wpAny_specialOf st2.type zip_nohint ?_)
    refine wpAny_pure ?_
    show wpAny _ A.in1 (rule "list.extend.makes-room" >>= fun _ => Builtin.List.listTouch (.ref S) >>= fun _ =>
      again (.builtin "list.extend.loop" ⟨[.ref S, .ref z, .none], []⟩)) _ _ _
    refine wpAny_bind (wpAny_rule ?_)
    refine wpAny_bind ?_
    show wpAny _ _ (updateSeq S (·.push .none) >>= fun _ => updateSeq S (·.pop)) _ _ _
    refine wpAny_bind (wpAny_updateSeq hS₂ rfl ?_)
    have hS₃ := Heap.get?_update_self (Obj.mapSeq (·.push Value.none)) hS₂ rfl
    refine wpAny_updateSeq (hz := by seq_fits) hS₃ rfl ?_
    have hS₄ := Heap.get?_update_self (Obj.mapSeq (·.pop)) hS₃ rfl
    refine wpAny_pure ⟨plainId_quiet PySem.F.plain_extend_loop _, key _ _ _ (fun b o hb e => ?_) hS₄⟩
    exact (Heap.get?_update_other _ _ (Ne.symm hb)).trans ((Heap.get?_update_other _ _ (Ne.symm hb)).trans (oth b o hb e))
/-- list(z), z the zip over two lists just made -/
theorem z_call {Q : Value → Shared → Prop} (hh : A.handled = none) (D : ZipApart z TI TO i1 i2 l1 l2) (hn : xs.size ≤ sizeLine) (q0 : IsZip s.heap z TI TO .none) (q1 : IsPair s.heap TI (.ref i1) (.ref i2)) (q2 : IsPair s.heap TO .none .none)
    (q3 : s.heap.IsListIter i1 l1 0) (q4 : s.heap.IsListIter i2 l2 0) (q5 : s.heap.IsList l1 xs) (q6 : s.heap.IsList l2 ys)
    (hQ : ∀ h' tk acc c as, (∀ b o, b ≠ z → b ≠ TO → b ≠ i1 → b ≠ i2 → s.heap.get? b = some o → h'.get? b = some o) → h'.get? s.heap.objs.size = some { cls := .type "list", dict := none, data := .seq acc c, slots := #[] } → as.length = min xs.size ys.size → ZG xs ys s.heap.objs.size h' as →
      acc.toList = as.map Value.ref → Q (.ref s.heap.objs.size) { s with heap := h', toks := tk }) :
    wpAny (model prog w) A (call (.type "list") [.ref z]) Q E s := by
  refine callType_codes (Q₁ := fun obj s₁ => obj = .ref s.heap.objs.size ∧ s₁ = { s with heap := s.heap.push { cls := .type "list", data := .seq #[] } }) PySem.F.called_list (PySem.F.typeCall_list_1 _) PySem.F.entry_list_init
    (code_list_new _ ⟨rfl, rfl⟩) fun obj s₁ h₁ => ?_
  obtain ⟨rfl, rfl⟩ := h₁
  have hS : (s.heap.push { cls := .type "list", data := .seq #[] }).get? s.heap.objs.size = some { cls := .type "list", data := .seq #[] } := Heap.get?_push_size _ rfl
  have k0 := Heap.lt_size q0
  have k1 := Heap.lt_size q1
  have k2 := Heap.lt_size q2
  have k3 : i1 < s.heap.objs.size := let ⟨_, e, _⟩ := q3; Heap.lt_size e
  have k4 : i2 < s.heap.objs.size := let ⟨_, e, _⟩ := q4; Heap.lt_size e
  have k5 : l1 < s.heap.objs.size := let ⟨_, e, _⟩ := q5; Heap.lt_size e
  have k6 : l2 < s.heap.objs.size := let ⟨_, e, _⟩ := q6; Heap.lt_size e
  have pu : ∀ {b : Addr} {o : Obj}, s.heap.get? b = some o → (s.heap.push { cls := .type "list", data := .seq #[] }).get? b = some o := fun e => Heap.get?_push_of_some _ e
  refine ⟨⟨_, hS, rfl⟩, PySem.F.args_list_init_2 _ _, z_init (xs := xs) (ys := ys) (A := A.in1) hh D _ ⟨Nat.ne_of_lt k0, Nat.ne_of_lt k1, Nat.ne_of_lt k2, Nat.ne_of_lt k3, Nat.ne_of_lt k4, Nat.ne_of_lt k5, Nat.ne_of_lt k6⟩ k0 k2 k3 k4 hn (pu q0)
    ⟨pu q1, q3.at fun o e => pu e, q4.at fun o e => pu e, q5.at fun o e => pu e, q6.at fun o e => pu e, .inl ⟨pu q0, _, _, pu q2⟩⟩ hS (fun h' tk acc c as hk hS' hl hG hacc => ?_)⟩
  exact ⟨rfl, hQ h' tk acc c as (fun b o c1 c2 c3 c4 e => hk b o (Nat.ne_of_lt (Heap.lt_size e)) c1 c2 c3 c4 (pu e)) hS' hl hG hacc⟩
end
/-- the tuples tracked at their addresses -/
def putP : Hp → List Addr → List (V × V) → Hp
  | H, a :: as, p :: ps => putP (upd H a (.tup [p.1, p.2])) as ps
  | H, _, _ => H
theorem putP_off {b : Addr} : ∀ (as : List Addr) (ps : List (V × V)) (H : Hp), b ∉ as → putP H as ps b = H b
  | [], _, _, _ => rfl
  | _ :: _, [], _, _ => rfl
  | a :: as, p :: ps, H, h => by
    show putP (upd H a (.tup [p.1, p.2])) as ps b = H b
    rw [putP_off as ps _ (fun z => h (List.mem_cons_of_mem _ z)), upd_ne (fun z => h (by rw [z]; exact List.mem_cons_self))]
theorem putP_at : ∀ (as : List Addr) (ps : List (V × V)) (H : Hp), as.length = ps.length → as.Nodup → Paired (fun (t : Addr) (p : V × V) => putP H as ps t = some (.tup [p.1, p.2])) as ps
  | [], [], _, _, _ => .nil
  | [], _ :: _, _, h, _ => by cases h
  | _ :: _, [], _, h, _ => by cases h
  | a :: as, p :: ps, H, h, hn => by
    have hn' := List.nodup_cons.mp hn
    have ih := putP_at as ps (upd H a (.tup [p.1, p.2])) (Nat.succ.inj h) hn'.2
    refine .cons ?_ ih
    show putP (upd H a (.tup [p.1, p.2])) as ps a = some (.tup [p.1, p.2])
    rw [putP_off as ps _ hn'.1, upd_same]
theorem vals_at : ∀ {xs : List V} {us : List Value}, Vals xs us → ∀ {i : Nat} {u : Value}, us[i]? = some u → ∃ x, xs[i]? = some x ∧ RelV x u
  | _, _, .nil, i, u, h => by simp at h
  | _, _, .cons r t, 0, u, h => by simp at h; subst h; exact ⟨_, rfl, r⟩
  | _, _, .cons r t, i + 1, u, h => by
    obtain ⟨x, e, q⟩ := vals_at t (i := i) (u := u) (by simpa using h)
    exact ⟨x, by simpa using e, q⟩
section
variable {X : Cx}
theorem pairs_laid {pins : List (Addr × Obj)} {σ : L2.St} {H : Hp} {s : Shared} {h' : Heap} {tk : Nat} {vs ws : List V} {us us2 : Array Value} {acc : Array Value} {c : Nat} {as : List Addr} (I : Inv X pins σ H s) (hz : vs.length ≤ sizeLine) (kv : Vals vs us.toList) (kw : Vals ws us2.toList)
    (hk : ∀ b o, s.heap.get? b = some o → h'.get? b = some o) {S : Addr} (bS : s.heap.objs.size ≤ S) (hS : h'.get? S = some { cls := .type "list", dict := none, data := .seq acc c, slots := #[] }) (hl : as.length = min us.size us2.size) (hG : ZG us us2 S h' as) (hacc : acc.toList = as.map Value.ref) :
    ∃ H' : Hp, (∀ b o, H b = some o → H' b = some o) ∧ H S = none ∧ (∀ t ∈ as, H t = none) ∧ S ∉ as ∧ H' S = some (.lst (as.map V.ref)) ∧ Paired (fun (t : Addr) (q : V × V) => H' t = some (.tup [q.1, q.2])) as (vs.zip ws) ∧ Inv X pins σ H' { s with heap := h', toks := tk } := by
  have lv : vs.length = us.size := by rw [kv.length]; simp
  have lw : ws.length = us2.size := by rw [kw.length]; simp
  have lk : as.length = (vs.zip ws).length := by rw [List.length_zip]; omega
  have hSn : S ∉ as := fun z => Nat.lt_irrefl _ (hG.above _ z)
  have nd : as.Nodup := List.Pairwise.imp (fun {a b} (h : a < b) => Nat.ne_of_lt h) hG.rise
  have new : ∀ t ∈ as, H t = none := fun t ht => I.hok.fresh (Nat.le_of_lt (Nat.lt_of_le_of_lt bS (hG.above t ht)))
  have newS : H S = none := I.hok.fresh bS
  have atP := putP_at as (vs.zip ws) (upd H S (.lst (as.map V.ref))) lk nd
  have off : ∀ b, b ∉ as → b ≠ S → putP (upd H S (.lst (as.map V.ref))) as (vs.zip ws) b = H b := fun b h1 h2 => by rw [putP_off as _ _ h1, upd_ne h2]
  have low : ∀ b o, s.heap.get? b = some o → b ∉ as ∧ b ≠ S := fun b o e => ⟨fun z => absurd (Heap.lt_size e) (Nat.not_lt.mpr (Nat.le_of_lt (Nat.lt_of_le_of_lt bS (hG.above b z)))), Nat.ne_of_lt (Nat.lt_of_lt_of_le (Heap.lt_size e) bS)⟩
  have kp : ∀ b u, H b = some u → (putP (upd H S (.lst (as.map V.ref))) as (vs.zip ws)) b = some u := fun b u e => by
    rw [off b (fun z => by rw [new b z] at e; cases e) (fun z => by rw [z, newS] at e; cases e)]
    exact e
  have eS : putP (upd H S (.lst (as.map V.ref))) as (vs.zip ws) S = some (.lst (as.map V.ref)) := by rw [putP_off as _ _ hSn, upd_same]
  refine ⟨putP (upd H S (.lst (as.map V.ref))) as (vs.zip ws), kp, newS, new, hSn, eS, atP, ?_⟩
  refine I.call' (ch := []) rfl ⟨fun b o q _ _ _ => hk b o q, fun b o q _ _ _ => ⟨o.slots, hk b o q⟩, fun b o q n _ => ?_, fun b o q _ => ⟨o, hk b o q⟩, fun b xs q => kp b _ q, fun b o u q => kp b _ q, fun b ps q => ⟨#[], by rw [kp b _ q]; simp⟩⟩ (fun b u q => ?_) I.bare fun b z => by simp at z
  · obtain ⟨z1, z2⟩ := low b o q
    rw [off b z1 z2]
    exact n
  · by_cases hb : b ∈ as
    · obtain ⟨j, pk, e1, e2, e3⟩ := LiI.paired_ix atP hb
      rw [e3] at q
      cases q
      obtain ⟨x, y, f1, f2, f3⟩ := hG.pairs j b e1
      obtain ⟨vx, g1, g2⟩ := vals_at kv (i := j) (u := x) (by simpa using f1)
      obtain ⟨vy, g3, g4⟩ := vals_at kw (i := j) (u := y) (by simpa using f2)
      rw [List.getElem?_zip_eq_some] at e2
      rw [e2.1] at g1
      rw [e2.2] at g3
      cases g1
      cases g3
      exact ⟨by show 2 ≤ sizeLine; decide, [x, y], .cons g2 (.cons g4 .nil), ⟨_, f3, rfl, _, rfl⟩⟩
    · by_cases hb2 : b = S
      · rw [hb2] at q ⊢
        rw [eS] at q
        cases q
        refine ⟨by rw [List.length_map]; omega, acc.toList, c, by rw [hacc]; exact LiI.vals_refs as, ?_⟩
        rw [Array.toArray_toList]
        exact hS
      · rw [off b hb hb2] at q
        exact (I.hok b u q).stay (fun d v _ y => hk d v y) (fun d y => kp d _ y) fun d xs y => kp d _ y
end
end LwZ

/-! LwPe: list(zip(xs, ys)), [*xs, y], range(n) as a value, str of data. -/
namespace LW
open PySem PySem.Spec L2 PyProof.Rows LwZ
/-! ### list(zip(xs, ys)) -/
def tZipL (K : PySem.W.Frag) (ta : TA) : TE := fun σ H Q => ta σ H fun vs H1 => ∃ (a b : Addr) (xs ys : List V), vs = [.ref a, .ref b] ∧ SqL K H1 a xs ∧ SqL K H1 b ys ∧
  ∀ (H' : Hp) (p : Addr) (ts : List Addr), (∀ b o, H1 b = some o → H' b = some o) → H1 p = none → (∀ t ∈ ts, H1 t = none) → p ∉ ts → H' p = some (.lst (ts.map V.ref)) →
    Paired (fun (t : Addr) (q : V × V) => H' t = some (.tup [q.1, q.2])) ts (xs.zip ys) → Q (.ref p) H'
theorem pe_zipL {X : Cx} {e e2 : Expr} {ta : TA} {p p2 pos pos2 : Pos} (hc : X.calm = true) (hg : Gl X "list") (hm : X.mg "list" = none) (boot : bootBuiltins "list" = some (.type "list")) (hg2 : Gl X "zip") (hm2 : X.mg "zip" = none) (ha : PA X [e, e2] ta)
    (star : starEach [.Call (.Name "zip" p2) [e, e2] [] pos2] X.env = (false, eval (.Call (.Name "zip" p2) [e, e2] [] pos2) X.env) :: starEach [] X.env)
    (hs : starEach [e, e2] X.env = (false, eval e X.env) :: starEach [e2] X.env) (hpl : (backTo pos2 (starEach [e2] X.env)).any (·.1) = false) :
    PE X (.Call (.Name "list" p) [.Call (.Name "zip" p2) [e, e2] [] pos2] [] pos) (tZipL X.K ta) := by
  refine ⟨fun pins s σ H Q J hq => wpAny_Call_Name_kw (ld_blt J hg hm boot (PyProof.Rows.callWith_type1 ?_ star rfl))⟩
  rw [star]
  show wpAny _ _ (spliced ((false, eval (.Call (.Name "zip" p2) [e, e2] [] pos2) X.env) :: backTo pos (starEach [] X.env))) _ _ s
  refine Calls.spliced_cons (Call_ (ld_blt J hg2 hm2 PyProof.Rows.boot_zip (PyProof.Rows.callWith_type1 (thn (ha.run pos2 pins s σ H _ J hq) fun us s1 ⟨vs, H1, I1, r1, q1⟩ => ?_) hs hpl)))
  obtain ⟨a, b, xs, ys, ex, hqx, hqy, q⟩ := q1
  subst ex
  cases r1 with
  | cons r rr =>
    cases rr with
    | cons r' rr =>
      cases rr
      cases r
      cases r'
      obtain ⟨its, rv, p1, z1⟩ := I1.list hqx
      obtain ⟨its2, rv2, p3, z3⟩ := I1.list hqy
      have la : a < s1.heap.objs.size := p1.lt
      have lb : b < s1.heap.objs.size := p3.lt
      refine call_zip_2 p1.isList p3.isList fun h' hz hTI hTO h1 h2 hsz hk => Calls.spliced_nil ?_
      have hn : its.toArray.size ≤ sizeLine := by
        have := rv.length
        simp
        omega
      refine LwZ.z_call (s := { s1 with heap := h' }) (xs := its.toArray) (ys := its2.toArray) (I1.ok.hd hc) (PySem.W.ktu_apart s1.heap.objs.size a b la lb) hn hz hTI hTO h1 h2 (p1.isList.at fun o e => hk _ o e) (p3.isList.at fun o e => hk _ o e) fun h2' tk acc c as k1 k2 k3 k4 k5 => ?_
      have keep : ∀ b o, s1.heap.get? b = some o → h2'.get? b = some o := fun b o e => by
        have q : ∀ n, b ≠ s1.heap.objs.size + n := fun n => Nat.ne_of_lt (Nat.lt_of_lt_of_le (Heap.lt_size e) (Nat.le_add_right _ _))
        exact k1 b o (q 4) (q 3) (q 0) (q 1) (hk b o e)
      obtain ⟨H', g1, g2, g3, g4, g5, g6, J3⟩ := pairs_laid (tk := tk) (s := s1) I1 z1 (us := its.toArray) (us2 := its2.toArray) (by simpa using rv) (by simpa using rv2) keep (S := h'.objs.size) (by omega) k2 k3 k4 k5
      exact ⟨.ref _, H', J3, rfl, q H' _ as g1 g2 g3 g4 g5 g6⟩
def zipD (xs ys : List D) : List D := (xs.zip ys).map fun p => .tup [p.1, p.2]
def eZipL (f : SA) : Fx (List D) := fun env st => match f env st with
  | some ([.lst xs, .lst ys], s1) => some (zipD xs ys, s1)
  | _ => none
theorem RepL.zip {mg : Glob} {N : Prot} {c : List Addr} {H H' : Hp} {N' : Prot} {c' : List Addr} : ∀ {vs ws : List V} {xs ys : List D} {ts : List Addr}, RepL mg N c H vs xs → RepL mg N c H ws ys → Tr N c H N' c' H' →
    Paired (fun (t : Addr) (q : V × V) => H' t = some (.tup [q.1, q.2])) ts (vs.zip ws) → RepL mg N' c' H' (ts.map V.ref) (zipD xs ys)
  | [], _, _, _, _, r, _, _, p => by
    cases r
    cases p
    exact .nil
  | _ :: _, [], _, _, _, r, r2, _, p => by
    cases r
    cases r2
    cases p
    exact .nil
  | _ :: _, _ :: _, _, _, _, .cons h1 r, .cons h2 r2, t, .cons e p => .cons (.tup e (.cons (h1.tr t) (.cons (h2.tr t) .nil))) (RepL.zip r r2 t p)
theorem d_zipL {mg : Glob} {X : Cx} {e e2 : Expr} {f : SA} {p p2 pos pos2 : Pos} (hc : X.calm = true) (hm : X.mg "list" = none) (hm2 : X.mg "zip" = none) (ha : PA X [e, e2] (tAP mg f)) (hg : Gl X "list" := by rfl) (hg2 : Gl X "zip" := by rfl)
    (star : starEach [.Call (.Name "zip" p2) [e, e2] [] pos2] X.env = (false, eval (.Call (.Name "zip" p2) [e, e2] [] pos2) X.env) :: starEach [] X.env := by rfl)
    (hs : starEach [e, e2] X.env = (false, eval e X.env) :: starEach [e2] X.env := by rfl) (hpl : (backTo pos2 (starEach [e2] X.env)).any (·.1) = false := by rfl) :
    PE X (.Call (.Name "list" p) [.Call (.Name "zip" p2) [e, e2] [] pos2] [] pos) (tL mg (eZipL f)) :=
  pe_weak (pe_zipL hc hg hm (by decide +kernel) hg2 hm2 ha star hs hpl) fun σ H Q ⟨E, N, c, env, st, d, st', R, q, k⟩ => by
    unfold eZipL at q
    split at q
    · rename_i xs ys s1 q1
      cases q
      refine ⟨E, N, c, env, st, _, _, R, q1, fun vs N1 c1 H1 x1 W1 r1 => ?_⟩
      cases r1 with
      | cons r1 r2 =>
        cases r2 with
        | cons r2 r3 =>
          cases r3
          obtain ⟨a, us, rfl, ha, ra⟩ := r1.lstH
          obtain ⟨b, ws, rfl, hb, rb⟩ := r2.lstH
          refine ⟨a, b, us, ws, rfl, SqL.of ha, SqL.of hb, fun H2 pa ts keep np nts nin hp hts => ?_⟩
          have xx : Ex N1 c1 H1 (fun a => N1 a ∨ a = pa) c1 H2 := ⟨fun b o h _ => keep b o h, fun b h => h.elim .inl fun e => by rw [e]; exact .inr np, fun _ h => .inl h, fun _ _ h => h, fun _ h => .inl h⟩
          have W2 : Wd mg (fun a => N1 a ∨ a = pa) c1 H2 _ := W1.ex0 xx keep fun b h e => by
            rcases h with h | h
            · cases hb : H1 b with
              | none => exact W1.trk b h hb
              | some o => rw [keep b o hb] at e; cases e
            · rw [h, hp] at e; cases e
          have rr := RepL.zip ra rb (xx.tr W1) hts
          exact k (.ref pa) _ c1 H2 (x1.trans xx R.wd) W2 ⟨pa, ts.map V.ref, rfl, x1.free R.wd W1 np, .inr rfl, W1.cnone np, hp, rr⟩
    · cases q
section
variable {env : Env} {st : Sto} {QL : List D → Sto → Prop} {QA : List D → Sto → Prop} {f : SA}
theorem z_zipL (h : Ok (f env st) fun ds s1 => ∃ xs ys, ds = [.lst xs, .lst ys] ∧ QL (zipD xs ys) s1) : Ok (eZipL f env st) QL := by
  obtain ⟨o, s1, e1, xs, ys, rfl, q⟩ := h
  exact ⟨_, s1, by unfold eZipL; rw [e1], q⟩
end
/-! ### [*xs, y] -/
def aStar (f : SE) (g : SA) : SA := fun env st => match f env st with
  | some (.lst xs, s1) => match g env s1 with
    | some (ds, s2) => some (xs ++ ds, s2)
    | none => none
  | _ => none
theorem a_star {mg : Glob} {X : Cx} {e : Expr} {es : List Expr} {f : SE} {g : SA} {p : Pos} (he : PE X e (tE mg f)) (hr : PA X es (tA mg g)) (hs : starEach (.Starred e p :: es) X.env = (true, eval e X.env) :: starEach es X.env := by rfl) :
    PA X (.Starred e p :: es) (tA mg (aStar f g)) := pa_weak (StX.pa_star he hr hs) fun σ H Q ⟨E, N, c, env, st, d, st', R, q, k⟩ => by
  unfold aStar at q
  split at q
  · rename_i xs s1 q1
    split at q
    · rename_i ds s2 q2
      cases q
      refine ⟨E, N, c, env, st, _, _, R, q1, fun v N1 c1 H1 x1 W1 r1 => ?_⟩
      cases r1 with
      | lst ha n r =>
        refine ⟨_, _, rfl, .inr (SqL.of ha), ?_⟩
        exact ⟨E, N1, c1, env, s1, ds, _, R.ex x1 W1, q2, fun vs N2 c2 H2 x2 W2 r2 => k _ N2 c2 H2 (x1.trans x2 R.wd) W2 (RepL.append (r.tr (x2.tr W1)) r2)⟩
    · cases q
  · cases q
section
variable {env : Env} {st : Sto} {QA : List D → Sto → Prop} {f : SE} {g : SA}
theorem z_aStar (h : Ok (f env st) fun d s1 => ∃ xs, d = .lst xs ∧ Ok (g env s1) fun ds s2 => QA (xs ++ ds) s2) : Ok (aStar f g env st) QA := by
  obtain ⟨d, s1, e1, xs, rfl, ds, s2, e2, q⟩ := h
  exact ⟨_, s2, by unfold aStar; rw [e1]; dsimp only; rw [e2], q⟩
end
/-! ### range(n) as a value -/
theorem rgo_at {P : Program} {w : World} {H : Hp} {h : Heap} {a : Addr} {j : Int} (hok : HOk P w H h) (he : H a = some (RgO j a)) : ∃ t u v, IsRange h a 0 j 1 t u v :=
  (show ObjOk P w H h a (RgO j a) from hok a _ he).1
def tRgV (ta : TA) : TE := fun σ H Q => ta σ H fun vs H1 => ∃ j : Int, vs = [.int j] ∧ ∀ p, H1 p = none → Q (.ref p) (upd H1 p (RgO j p))
theorem pe_rgV {X : Cx} {a : Expr} {ta : TA} {p pos : Pos} (hg : Gl X "range") (hm : X.mg "range" = none) (ha : PA X [a] ta) (hs : starEach [a] X.env = [(false, eval a X.env)] := by rfl) : PE X (.Call (.Name "range" p) [a] [] pos) (tRgV ta) := by
  refine ⟨fun pins s σ H Q I h => ?_⟩
  refine wpAny_Call_Name_kw (ld_blt I hg hm boot_range (PyProof.Rows.callWith_type1 (thn (ha.run pos pins s σ H _ I h) fun us s1 ⟨vs, H1, I1, r1, q1⟩ => ?_) hs rfl))
  obtain ⟨j, e, q⟩ := q1
  subst e
  cases r1 with
  | cons r rr =>
    cases rr
    obtain ⟨t, rfl⟩ := r
    refine call_range_1 ?_
    have hn : H1 s1.heap.objs.size = none := I1.hok.fresh (Nat.le_refl _)
    refine ⟨.ref s1.heap.objs.size, upd H1 s1.heap.objs.size (RgO j s1.heap.objs.size), I1.laid (t' := s1.toks + 1 + 1) (fun b o e => Heap.get?_push_of_some _ e) (Nat.le_refl _) ?_, rfl, q _ hn⟩
    exact ⟨⟨_, _, _, IsRange.new ..⟩, ⟨_, Heap.get?_push_size _ rfl⟩, fun _ _ ⟨t, u, v, z⟩ k => ⟨t, u, v, k _ z⟩⟩
def iRgO (te : TE) : TI := fun σ H R => te σ H fun x H1 => ∃ (a : Addr) (j : Int), x = .ref a ∧ H1 a = some (RgO j a) ∧ -(2 ^ 62) ≤ j ∧ j < 2 ^ 62 ∧ R (Itr 0 j.toNat) H1
theorem pi_rgO {X : Cx} {tg e : Expr} {te : TE} (he : PE X e te) : PI X tg e (iRgO te) := by
  refine ⟨fun pins s σ H R I h => ?_⟩
  refine thn (he.run pins s σ H _ I h) fun v s1 ⟨x, H1, I1, r1, a, j, e1, ha, h1, h2, q⟩ => ?_
  subst e1
  cases r1
  obtain ⟨t, u, v, hr⟩ := rgo_at I1.hok ha
  refine wpAny_pyIter_range hr (small_one (by omega) (by omega) h1 h2) ?_
  refine ⟨s1.heap.objs.size, [s1.heap.objs.size], _, _, H1, rfl, I1.kept (t' := s1.toks) fun b o e => Heap.get?_push_of_some _ e, turn_range _ 0 j.toNat, ?_, fun b hb => ?_, q⟩
  · have e1 : (0 : Int) + ((0 : Nat) : Int) * 1 = 0 := by simp
    have e2 : (((j.toNat : Nat) : Int) - ((0 : Nat) : Int)) = Builtin.Range.rangeSize 0 j 1 := by rw [rangeSize_one]; split <;> omega
    show IsRangeIter _ _ ((0 : Int) + ((0 : Nat) : Int) * 1) (((j.toNat : Nat) : Int) - ((0 : Nat) : Int)) 1
    rw [e1, e2]
    exact Heap.get?_push_size _ rfl
  · have e : b = s1.heap.objs.size := by simpa using hb
    subst e
    exact I1.fpOk (Nat.le_refl _) (I1.hok.fresh (Nat.le_refl _))
def eRgV (f : SA) : SE := fun env st => match f env st with
  | some ([.int j], s1) => some (.rng j, s1)
  | _ => none
def iRgV (f : SE) : Fx Src := fun env st => match f env st with
  | some (.rng j, s1) => if inR j = true then some ((rangeD 0 1 j.toNat, noChk), s1) else none
  | _ => none
section
variable {mg : Glob} {X : Cx} {tg e : Expr} {fe : SE} {f : SA}
theorem d_rgV {p pos : Pos} (hm : X.mg "range" = none) (ha : PA X [e] (tAP mg f)) (hg : Gl X "range" := by rfl) (hs : starEach [e] X.env = [(false, eval e X.env)] := by rfl) : PE X (.Call (.Name "range" p) [e] [] pos) (tE mg (eRgV f)) := pe_weak (pe_rgV hg hm ha hs) fun σ H Q ⟨E, N, c, env, st, d, st', R, q, k⟩ => by
  unfold eRgV at q
  split at q
  · rename_i j s1 q1
    cases q
    refine ⟨E, N, c, env, st, _, _, R, q1, fun vs N1 c1 H1 x1 W1 r1 => ⟨j, tl1' r1, fun p hp => ?_⟩⟩
    have nn : ¬ N1 p := fun z => W1.trk p z hp
    have nc : p ∉ c1 := fun z => nn (W1.cn p z)
    have xx : Ex N1 c1 H1 N1 c1 (upd H1 p (RgO j p)) := ⟨fun b o h _ => by rw [upd_ne (fun z => by rw [z, hp] at h; cases h)]; exact h, fun _ h => .inl h, fun _ h => h, fun _ _ h => h, fun _ h => .inl h⟩
    have W2 : Wd mg N1 c1 (upd H1 p (RgO j p)) _ := W1.ex0 xx (fun b o h => by rw [upd_ne (fun z => by rw [z, hp] at h; cases h)]; exact h) fun b h e => by
      by_cases z : b = p
      · exact nn (z ▸ h)
      · rw [upd_ne z] at e; exact W1.trk b h e
    exact k (.ref p) N1 c1 _ (x1.trans xx R.wd) W2 (.rng (upd_same ..) nn)
  · cases q
theorem i_rgV (h : PE X e (tE mg fe)) : PI X tg e (tI mg (iRgV fe)) := pi_weak (pi_rgO h) fun σ H R' ⟨E, N, c, env, st, xs, st', R, q, k⟩ => by
  unfold iRgV at q
  split at q
  · rename_i j s1 q1
    split at q
    · rename_i hr
      cases q
      refine ⟨E, N, c, env, st, _, _, R, q1, fun v N1 c1 H1 x1 W1 r1 => ?_⟩
      obtain ⟨h1, h2⟩ := inR_ok hr
      cases r1 with
      | rng ha n => exact ⟨_, j, rfl, ha, h1, h2, k _ N1 c1 H1 x1 W1 il_range⟩
    · cases q
  · cases q
end
section
variable {env : Env} {st : Sto} {QE : D → Sto → Prop} {f : SA}
theorem z_irgV {fe : SE} {QI : Src → Sto → Prop} (h : Ok (fe env st) fun d s => ∃ j, d = .rng j ∧ inR j = true ∧ QI (rangeD 0 1 j.toNat, noChk) s) : Ok (iRgV fe env st) QI := by
  obtain ⟨o, s1, e1, j, rfl, r, q⟩ := h
  exact ⟨_, s1, by unfold iRgV; rw [e1]; dsimp only; rw [if_pos r], q⟩
theorem z_rgV (h : Ok (f env st) fun ds s1 => ∃ j, ds = [.int j] ∧ QE (.rng j) s1) : Ok (eRgV f env st) QE := by
  obtain ⟨o, s1, e1, j, rfl, q⟩ := h
  exact ⟨_, s1, by unfold eRgV; rw [e1], q⟩
end
/-! ### str(x) -/
section
variable {prog : Program} {w : World} {A : Around} {E : Value → Shared → Prop} {s : Shared} {h₀ : Heap} {a : Addr} {d : PyData} {as : List Addr}
theorem str_of_reads {Q : Value → Shared → Prop} (r : Reads h₀ (.ref a) d as) (hs : d.showable = true) (hsm : d.hasDict = true → sysModules ∉ as) (hg : A.guards = some []) (hu : A.units + (d.depth + 3) < cLine) (hk0 : ∀ b o, h₀.get? b = some o → s.heap.get? b = some o)
    (hQ : ∀ h' u tk, (∀ b o, s.heap.get? b = some o → h'.get? b = some o) → Q (.str d.shown u) { s with heap := h', toks := tk }) (hsz : d.shown.length ≤ sizeLine) : wpAny (model prog w) A (call (.type "str") [.ref a]) Q E s :=
  callType_new F.called_str (by decide) (F.typeCall_str_1 _) (F.newCall_str_1 _) (fun obj => F.args_object_init_2 obj _) F.entry_str_new
    (meets_str_new (S := fun A' R s' => A'.guards = some [] ∧ A'.units + 1 + (d.depth + 1) < cLine ∧ (∀ b o, h₀.get? b = some o → s'.heap.get? b = some o) ∧
        ∀ h' u tk, (∀ b o, s'.heap.get? b = some o → h'.get? b = some o) → R (.ok (.ret (.str d.shown u))) { s' with heap := h', toks := tk }) fun prog w A' R s' hq =>
      strOf_of_reads (A := A'.in1) r hs hsm hq.1 hq.2.1 hq.2.2.1 hq.2.2.2 hsz) ⟨hg, by show A.units + 1 + 1 + (d.depth + 1) < cLine; omega, hk0, fun h' u tk hk => ⟨typeIs_str _ _ _, hQ h' u tk hk⟩⟩
end
def noStr : PyData → Bool
  | .str _ => false
  | _ => true
def rStrD (K : PySem.W.Frag) : List V → Hp → VK → Prop := fun xs H Q => ∃ (x : V) (d : PyData), xs = [x] ∧ Dp K H x d ∧ SeqAt.shaped d = true ∧ noStr d = true ∧ d.showable = true ∧ d.shown.length ≤ sizeLine ∧ Q (.str d.shown) H
theorem call_strD {X : Cx} (hg : X.A.guards = some []) (hu : X.A.units + 80 < cLine) : CallR X (.type "str") (rStrD X.K) := by
  intro pins s σ H xs us Q I r h
  obtain ⟨x, d, rfl, hd, hsh, hno, hs, hz, q⟩ := h
  obtain ⟨u, rfl, ru⟩ := vals1 r
  obtain ⟨as, rd⟩ := Dp.reads I d x u hd ru
  have dep := SeqAt.depth_of_shaped hsh
  have nd : d.hasDict = true → sysModules ∉ as := PyData.noDict_hsm (PyData.hasDict_of_canLay d (SeqAt.canLay_of_shaped hsh))
  have fin : ∀ (h' : Heap) (t : Tok) (tk : Nat), (∀ b o, s.heap.get? b = some o → h'.get? b = some o) → EP X pins σ Q (.str d.shown t) { s with heap := h', toks := tk } := fun h' t tk hk => ⟨.str d.shown, H, I.kept hk, ⟨t, rfl⟩, q⟩
  cases hd with
  | non =>
    cases (show u = Value.none from ru)
    exact PySem.P.str_of_none (by have := fin s.heap s.toks (s.toks + 1) (fun _ _ e => e); simpa [PyData.shown] using this)
  | bl b =>
    cases (show u = Value.bool b from ru)
    exact PySem.P.str_of_bool (by have := fin s.heap s.toks (s.toks + 1) (fun _ _ e => e); simpa [PyData.shown] using this)
  | int i =>
    obtain ⟨t, rfl⟩ := (show ∃ t, u = Value.int i t from ru)
    exact PySem.P.str_of_int (by simpa [PyData.showable] using hs) (by have := fin s.heap s.toks (s.toks + 1) (fun _ _ e => e); simpa [PyData.shown] using this)
  | str z => cases hno
  | @lst a _ _ _ _ =>
    cases (show u = Value.ref a from ru)
    exact str_of_reads rd hs nd hg (by omega) (fun _ _ e => e) (fun h' t tk hk => fin h' t tk hk) hz
  | @tup a _ _ _ _ =>
    cases (show u = Value.ref a from ru)
    exact str_of_reads rd hs nd hg (by omega) (fun _ _ e => e) (fun h' t tk hk => fin h' t tk hk) hz
def gStrD : List D → Sto → Option D := fun ds st => match ds with
  | [x] => match toPy 60 st x with
    | some p => if noStr p = true ∧ p.showable = true ∧ p.shown.length ≤ 1000000 then some (.str p.shown) else none
    | none => none
  | _ => none
theorem ok_strD {mg : Glob} : BiOk mg (RE mg) (rStrD mg.K) gStrD := by
  intro N c H st us ds d Q W p q k
  unfold gStrD at q
  split at q
  · split at q
    · rename_i pd hp
      split at q
      · rename_i hs
        cases q
        obtain ⟨u, rfl, h⟩ := tl1 p
        exact ⟨u, pd, rfl, dp_T W h hp, toPy_shaped hp, hs.1, hs.2.1, sz6 hs.2.2, k _ N c H Ex.refl W (.str _)⟩
      · cases q
    · cases q
  · cases q
theorem d_strD {mg : Glob} {X : Cx} {e : Expr} {p pos : Pos} {f : SA} (hgd : X.A.guards = some []) (hu : X.A.units + 80 < cLine) (hm : X.mg "str" = none) (ha : PA X [e] (tAP mg f)) (hg : Gl X "str" := by rfl)
    (he : starEach [e] X.env = (false, eval e X.env) :: starEach [] X.env := by rfl) (hpl : (backTo pos (starEach [] X.env)).any (·.1) = false := by rfl) (hK : X.K = mg.K := by rfl) : PE X (.Call (.Name "str" p) [e] [] pos) (tE mg (eBi gStrD f)) :=
  d_bt (hK ▸ call_strD hgd hu) ok_strD back_E hg hm (by decide +kernel) ha (by decide) (by decide) he hpl
end LW
namespace L2
open PySem PySem.Spec PyProof.Rows
def rNotInTD (K : PySem.W.Frag) : R2 := fun x y H Q => ∃ d ds, Dp K H x d ∧ Dp K H y (.tuple ds) ∧ SeqAt.shaped d = true ∧ SeqAt.shaped (.tuple ds) = true ∧ Q (.bl (!ds.any fun z => PyData.eqv z d)) H
theorem op_notInTD {X : Cx} (hu : X.A.units + 65 < cLine) : OpR X (compareOp .NotIn) (rNotInTD X.K) := by
  intro pins s σ H x y v u Q I rx ry h
  obtain ⟨d, ds, hd, he, sd, se, q⟩ := h
  obtain ⟨as, r1⟩ := Dp.reads I d x v hd rx
  obtain ⟨bs, r2⟩ := Dp.reads I (.tuple ds) y u he ry
  exact SeqAt.notIn_tuple_reads r2 r1 (SeqAt.canLay_of_shaped se) (SeqAt.canLay_of_shaped sd) (room_in_shaped sd hu) ⟨.bl _, H, I, rfl, q⟩
end L2
namespace LW
open PySem L2 PyProof.Rows
/-- x not in (t, ..), data -/
def oNInTD : D → D → Sto → Option D := fun x y st => match toPy 60 st x, toPy 60 st y with
  | some p, some (.tuple ds) => some (.bl (!ds.any fun z => PyData.eqv z p))
  | _, _ => none
theorem ok_ninTD {mg : Glob} : OpOk mg (RE mg) (rNotInTD mg.K) oNInTD := by
  intro N c H st u v x y d Q W p1 p2 e k
  unfold oNInTD at e
  split at e
  · rename_i p ds hp hd
    cases e
    exact ⟨p, ds, dp_T W p1 hp, dp_T W p2 hd, toPy_shaped hp, toPy_shaped hd, k _ N c H Ex.refl W (.bl _)⟩
  · cases e
section
variable {mg : Glob} {X : Cx} {a b : Expr} {pos : Pos} {fa fb : SE}
theorem d_ninTD (hu : X.A.units + 65 < cLine) (ha : PE X a (tP mg fa)) (hb : PE X b (tP mg fb)) (hK : X.K = mg.K := by rfl) (hn : lastMarks [.NotIn] [b] = false := by rfl) : PE X (.Compare a [.NotIn] [b] pos) (tE mg (eOp oNInTD fa fb)) := d_cmp (hK ▸ op_notInTD hu) ok_ninTD back_E ha hb hn
end
end LW
namespace LW
open PySem L2 PyProof.Rows
/-! ### == of tuples that are equal -/
def rEqTZ (K : PySem.W.Frag) : R2 := fun x y H Q => ∃ n a b xs ys, n ≤ 60 ∧ x = .ref a ∧ y = .ref b ∧ SqT K H a xs ∧ SqT K H b ys ∧ Paired (EqY K H n) xs ys ∧ Q (.bl true) H
theorem op_eqTZ {X : Cx} (hu : X.A.units + 64 < cLine) : OpR X (compareOp .Eq) (rEqTZ X.K) := by
  intro pins s σ H x y v u Q I rx ry h
  obtain ⟨n, a, b, xs, ys, hn, rfl, rfl, ha, hb, hp, q⟩ := h
  have ih := eqY_run I n X.A.in1 (by show X.A.units + 1 + n < cLine; omega)
  cases (show v = Value.ref a from rx)
  cases (show u = Value.ref b from ry)
  obtain ⟨us, r1, p1, _⟩ := I.tuple ha
  obtain ⟨ws, r2, p2, _⟩ := I.tuple hb
  have hz : us.toArray.size = ws.toArray.size := by
    rw [List.size_toArray, List.size_toArray, ← r1.length, ← r2.length]
    exact Paired.length hp
  refine SeqAt.rcP_tuplesY (e := fun _ => true) p1 p2 (by omega) (fun j h1 h2 => ?_) _ _ ?_
  · have k := items_run ih hp r1 r2 j (by simpa using h1) (by simpa using h2)
    simpa using k
  · rw [show ((List.range (min us.toArray.size ws.toArray.size)).all (fun _ => true) && us.toArray.size == ws.toArray.size) = true by rw [hz]; simp]
    exact ⟨.bl true, H, I, rfl, q⟩
def oEqTZ : D → D → Sto → Option D := fun x y st => match x, y with
  | .tup xs, .tup ys => if all2 (eqZ st 40) xs ys = true then some (.bl true) else none
  | _, _ => none
theorem ok_eqTZ {mg : Glob} : OpOk mg (RE mg) (rEqTZ mg.K) oEqTZ := by
  intro N c H st u v x y d Q W p1 p2 e k
  unfold oEqTZ at e
  split at e
  · split at e
    · rename_i h
      cases e
      obtain ⟨a, us, rfl, ha, r⟩ := RepT.tup p1
      obtain ⟨b, vs, rfl, hb, r'⟩ := RepT.tup p2
      exact ⟨40, a, b, us, vs, by decide, rfl, rfl, SqT.of ha, SqT.of hb, all2_relF (eqZ_rel W 40) h r r', k _ N c H Ex.refl W (.bl _)⟩
    · cases e
  · cases e
section
variable {mg : Glob} {X : Cx} {a b : Expr} {pos : Pos} {fa fb : SE}
theorem d_eqTZ (hu : X.A.units + 64 < cLine) (ha : PE X a (tP mg fa)) (hb : PE X b (tP mg fb)) (hK : X.K = mg.K := by rfl) : PE X (.Compare a [.Eq] [b] pos) (tE mg (eOp oEqTZ fa fb)) := d_cmp (hK ▸ op_eqTZ hu) ok_eqTZ back_E ha hb (nomark _)
end
section
variable {s : Sto} {Q : D → Prop}
theorem u_eqTZ {xs ys : List D} (h : all2 (eqZ s 40) xs ys = true) (q : Q (.bl true)) : Od (oEqTZ (.tup xs) (.tup ys) s) Q := ⟨_, if_pos h, q⟩
theorem u_strD {x : D} {p : PyData} (hp : toPy 60 s x = some p) (hn : noStr p = true) (hs : p.showable = true) (hl : p.shown.length ≤ 1000000) (q : Q (.str p.shown)) : Od (gStrD [x] s) Q := by
  refine u_now ?_ q
  unfold gStrD
  dsimp only
  rw [hp]
  dsimp only
  rw [if_pos ⟨hn, hs, hl⟩]
end
end LW

/-! The walk of law_k64_whole_fits_and_clashes: printed by gen.py. -/
namespace K64
open PySem L2 LW PyProof.Rows
structure Txt0 (K : PySem.W.Frag) (mg : Str → Option Value) (C_Sights : Addr) : Prop where
  F_Sights___eq__ : MT K C_Sights "__eq__" "Sights.__eq__" s_Sights___eq__
  F_Sights___init__ : ∃ f fd, Mk K C_Sights f ∧ Fun K "__init__" "Sights.__init__" s_Sights___init__ f fd
  F_Sights_clashes : MT K C_Sights "clashes" "Sights.clashes" s_Sights_clashes
  F_Sights_greatest_wait : MT K C_Sights "greatest_wait" "Sights.greatest_wait" s_Sights_greatest_wait
  F_Sights_least_wait : MT K C_Sights "least_wait" "Sights.least_wait" s_Sights_least_wait
  F_Sights_most : MT K C_Sights "most" "Sights.most" s_Sights_most
  F_Sights_names : MT K C_Sights "names" "Sights.names" s_Sights_names
  F_Sights_rows : MT K C_Sights "rows" "Sights.rows" s_Sights_rows
  F_Sights_standing : MT K C_Sights "standing" "Sights.standing" s_Sights_standing
  F_Sights_with_row : MT K C_Sights "with_row" "Sights.with_row" s_Sights_with_row
  F_Sights_without : MT K C_Sights "without" "Sights.without" s_Sights_without
  F__law_bounds : FT K mg "_law_bounds" s__law_bounds
  F__law_copied : FT K mg "_law_copied" s__law_copied
  F__law_draw : FT K mg "_law_draw" s__law_draw
  F__law_every : FT K mg "_law_every" s__law_every
  F__law_first_told : FT K mg "_law_first_told" s__law_first_told
  F__law_grown_right : FT K mg "_law_grown_right" s__law_grown_right
  F__law_hidden : FT K mg "_law_hidden" s__law_hidden
  F__law_judged_right : FT K mg "_law_judged_right" s__law_judged_right
  F__law_mixed : FT K mg "_law_mixed" s__law_mixed
  F__law_names : FT K mg "_law_names" s__law_names
  F__law_one_of : FT K mg "_law_one_of" s__law_one_of
  F__law_pairs : FT K mg "_law_pairs" s__law_pairs
  F__law_purse : FT K mg "_law_purse" s__law_purse
  F__law_purses : FT K mg "_law_purses" s__law_purses
  F__law_row_hour : FT K mg "_law_row_hour" s__law_row_hour
  F__law_seen : FT K mg "_law_seen" s__law_seen
  F__law_shuffled : FT K mg "_law_shuffled" s__law_shuffled
  F__law_sight : FT K mg "_law_sight" s__law_sight
  F__law_spot : FT K mg "_law_spot" s__law_spot
  F__law_standing : FT K mg "_law_standing" s__law_standing
  F__law_suits : FT K mg "_law_suits" s__law_suits
  F__law_within : FT K mg "_law_within" s__law_within
  F__law_word : FT K mg "_law_word" s__law_word
  F_check_clash : FT K mg "check_clash" s_check_clash
  F_check_count : FTd K mg "check_count" s_check_count [.int 0, .non]
  F_check_sights : FT K mg "check_sights" s_check_sights
  F_clash : FT K mg "clash" s_clash
  F_fits : FT K mg "fits" s_fits
  F_is_count : FT K mg "is_count" s_is_count
  F_is_lot : FT K mg "is_lot" s_is_lot
  F_is_name : FT K mg "is_name" s_is_name
  F_is_sight : FT K mg "is_sight" s_is_sight
  F_is_whole : FT K mg "is_whole" s_is_whole
  F_law : FT K mg "law" s_law
  a_Sights_limit : NoAttr K C_Sights "limit"
  a_Sights_lot : NoAttr K C_Sights "lot"
  a_Sights_seen : NoAttr K C_Sights "seen"
  c_Sights : mg "Sights" = some (.ref C_Sights)
  g_LETTERS : GS mg "LETTERS" "abcdefghijklmnopqrstuvwxyz"
  isi : Isi ⟨mg, K⟩ CS
  k_Sights : Cls K C_Sights
  n_bool : mg "bool" = none
  n_dict : mg "dict" = none
  n_int : mg "int" = none
  n_isinstance : mg "isinstance" = none
  n_len : mg "len" = none
  n_list : mg "list" = none
  n_max : mg "max" = none
  n_min : mg "min" = none
  n_range : mg "range" = none
  n_set : mg "set" = none
  n_sorted : mg "sorted" = none
  n_str : mg "str" = none
  n_sum : mg "sum" = none
  n_tuple : mg "tuple" = none
  n_zip : mg "zip" = none
  ne_Sights : PySem.W.findIn K (.ref C_Sights) "__ne__" = some (some (.builtin "object.__ne__"))
  nf_Sights : NotF ⟨mg, K⟩ CS C_Sights
  ob_Sights : PySem.W.mroIn K C_Sights (.type "object") = some true
section
variable {P : Program} {w : World} {K : PySem.W.Frag} {mg : Str → Option Value} {base : Heap} {C_Sights : Addr}
theorem u0 {k : Nat} {A : Around} (r : Room k A) : A.units < cLine := by have := r.un; omega
theorem u1 {k : Nat} {A : Around} (r : Room k A) : A.units + 1 < cLine := by have := r.un; omega
theorem u65 {k : Nat} {A : Around} (r : Room k A) : A.units + 65 < cLine := by have := r.un; omega
theorem u80 {k : Nat} {A : Around} (r : Room k A) : A.units + 80 < cLine := by have := r.un; omega
/-! ### _law_purse -/
def b__law_purse : SS := sSeq (sSet 2 (eBi gSum (aCons (eL (eSl slL (ePeek 0) (oSome (ePeek 1)) (oSome (eOp oAdd (ePeek 1) (eC (.int 1)))))) (aNil))))
  (sRetC (lDisp (aCons (eOp oMod (eBi gMax (aCons (eOp oSub (ePeek 2) (eOp oPow (eC (.int 10)) (eC (.int 18)))) (aCons (eC (.int 0)) (aNil)))) (eOp oPow (eOp oPow (eC (.int 10)) (eC (.int 60))) (eC (.int 8)))) (aCons (eOp oMod (ePeek 2) (eC (.int 2147483629))) (aCons (eC (.int 0)) (aCons (eVar 1) (aNil)))))))
def m__law_purse : FM := fnM 2 3 b__law_purse
theorem sc__law_purse : FnScope ["_law_script", "_law_at", "_law_seed"] ["_law_script", "_law_at"] (defScope s__law_purse) := ⟨rfl, rfl, rfl, by decide +kernel, rfl, by decide +kernel, by decide +kernel⟩
theorem ok__law_purse (T : Txt0 K mg C_Sights) : OkF P w K mg base 1 "_law_purse" ["_law_script", "_law_at"] m__law_purse := by
  refine okF_mk (nm := ["_law_script", "_law_at", "_law_seed"]) T.F__law_purse sc__law_purse (fun _ _ _ _ _ _ us hl => match us, hl with | [_, _], _ => rfl) (fun f cdv A outer s H E hr => ?_)
  exact s_cons (s_set (i := 2) sc__law_purse.nd (d_sum rfl (T.n_sum) (p_cons (d_peek (d_give (d_slL (d_look 0) (o_some (d_look 1)) (o_some (d_peek (d_add (d_look 1) (d_peek (d_int)))))))) (p_nil))))
      (s_one (s_retC (d_lst (a_cons (d_mod (d_peek (d_max rfl (T.n_max) (p_cons (d_peek (d_sub (d_look 2) (d_peek (d_pow (d_peek (d_int)) (d_peek (d_int)))))) (p_cons (d_peek (d_int)) (p_nil))))) (d_peek (d_pow (d_peek (d_pow (d_peek (d_int)) (d_peek (d_int)))) (d_peek (d_int))))) (a_cons (d_mod (d_look 2) (d_peek (d_int))) (a_cons (d_int) (a_cons (d_var 1) (a_nil))))))))
/-! ### _law_purses -/
def b__law_purses : SS := sRet (eL (lComp (iRg1 (aCons (eBi gMax (aCons (eC (.int 1)) (aCons (eBi gMin (aCons (ePeek 1) (aCons (eBi gLen (aCons (ePeek 0) (aNil))) (aNil)))) (aNil)))) (aNil))) (asgN 2) (bYes) (eCall m__law_purse [] (aCons (eVar 0) (aCons (eVar 2) (aNil)))) [2]))
def m__law_purses : FM := fnM 2 3 b__law_purses
theorem sc__law_purses : FnScope ["_law_script", "_law_few", "_law_at"] ["_law_script", "_law_few"] (defScope s__law_purses) := ⟨rfl, rfl, rfl, by decide +kernel, rfl, by decide +kernel, by decide +kernel⟩
theorem ok__law_purses (T : Txt0 K mg C_Sights) : OkF P w K mg base 2 "_law_purses" ["_law_script", "_law_few"] m__law_purses := by
  refine okF_mk (nm := ["_law_script", "_law_few", "_law_at"]) T.F__law_purses sc__law_purses (fun _ _ _ _ _ _ us hl => match us, hl with | [_, _], _ => rfl) (fun f cdv A outer s H E hr => ?_)
  have hr1 : Room 1 _ := hr.mono (by decide)
  exact s_one (s_ret (d_give (d_lc rfl sc__law_purses.nd (i_rg1 (T.n_range) (p_cons (d_peek (d_max rfl (T.n_max) (p_cons (d_peek (d_int)) (p_cons (d_peek (d_min rfl (T.n_min) (p_cons (d_look 1) (p_cons (d_peek (d_len (T.n_len) (p_cons (d_look 0) (p_nil)))) (p_nil))))) (p_nil))))) (p_nil))) (blkOk_by (own := [("_law_at", 2)]) (by first | (show blkC ["_law_script", "_law_few", "_law_at"] (defScope s__law_purses) _ _ = true; decide +kernel) | kernel_rfl | rfl)) (fun _ _ _ _ _ => t_name (i := 2) sc__law_purses.nd) (gok_name 2) (by decide) (fun _ _ _ _ _ => pts_nilT) (fun _ _ _ _ _ => c_call (ok__law_purse T) hr1 (a_cons (d_var 0) (a_cons (d_var 2) (a_nil)))))))
/-! ### _law_mixed -/
def b__law_mixed : SS := sSeq (sSet 3 (eOp oAdd (eOp oMul (ePeek 0) (eC (.int 69069))) (eOp oMul (eOp oMul (eC (.int 104729)) (ePeek 1)) (ePeek 1))))
  (sSeq (sSet 3 (eOp oMod (eOp oAdd (eOp oAdd (ePeek 3) (eOp oMul (eC (.int 7919)) (ePeek 2))) (ePeek 1)) (eC (.int 2147483647))))
  (sSeq (sSet 3 (eOp oMod (eOp oAdd (eOp oMul (ePeek 3) (ePeek 3)) (eC (.int 40503))) (eC (.int 2147483629))))
  (sRet (eOp oMod (eOp oMul (ePeek 3) (eC (.int 48271))) (eC (.int 2147483587))))))
def m__law_mixed : FM := fnM 3 4 b__law_mixed
theorem sc__law_mixed : FnScope ["_law_seed", "_law_turn", "_law_at", "_law_mixed_here"] ["_law_seed", "_law_turn", "_law_at"] (defScope s__law_mixed) := ⟨rfl, rfl, rfl, by decide +kernel, rfl, by decide +kernel, by decide +kernel⟩
theorem ok__law_mixed (T : Txt0 K mg C_Sights) : OkF P w K mg base 1 "_law_mixed" ["_law_seed", "_law_turn", "_law_at"] m__law_mixed := by
  refine okF_mk (nm := ["_law_seed", "_law_turn", "_law_at", "_law_mixed_here"]) T.F__law_mixed sc__law_mixed (fun _ _ _ _ _ _ us hl => match us, hl with | [_, _, _], _ => rfl) (fun f cdv A outer s H E hr => ?_)
  exact s_cons (s_set (i := 3) sc__law_mixed.nd (d_add (d_peek (d_mul (d_look 0) (d_peek (d_int)))) (d_peek (d_mul (d_peek (d_mul (d_peek (d_int)) (d_look 1))) (d_look 1)))))
      (s_cons (s_set (i := 3) sc__law_mixed.nd (d_mod (d_peek (d_add (d_peek (d_add (d_look 3) (d_peek (d_mul (d_peek (d_int)) (d_look 2))))) (d_look 1))) (d_peek (d_int))))
      (s_cons (s_set (i := 3) sc__law_mixed.nd (d_mod (d_peek (d_add (d_peek (d_mul (d_look 3) (d_look 3))) (d_peek (d_int)))) (d_peek (d_int))))
      (s_one (s_ret (d_mod (d_peek (d_mul (d_look 3) (d_peek (d_int)))) (d_peek (d_int)))))))
/-! ### _law_draw -/
def b__law_draw : SS := sSeq (sIf (bOf (eOp oGt (eOp oIx (ePeek 0) (eC (.int 0))) (eC (.int 0))))
  (sSeq (sSet 2 (eOp oMod (eOp oIx (ePeek 0) (eC (.int 0))) (ePeek 1)))
  (sSeq (sPutC (eVar 0) (eC (.int 0)) (eOp oDiv (eOp oIx (ePeek 0) (eC (.int 0))) (ePeek 1)))
  (sRet (eVar 2))))
  (sNil))
  (sSeq (sSet 3 (eC (.int 0)))
  (sSeq (sFor (iRg1 (aCons (eOp oAdd (eC (.int 1)) (eOp oDiv (eBits (ePeek 1)) (eC (.int 28)))) (aNil))) (asgN 4)
  (sSeq (sPutC (eVar 0) (eC (.int 2)) (eOp oAdd (eOp oIx (ePeek 0) (eC (.int 2))) (eC (.int 1))))
  (sSet 3 (eOp oAdd (eOp oMul (ePeek 3) (eC (.int 2147483587))) (eCall m__law_mixed [] (aCons (eOp oIx (ePeek 0) (eC (.int 1))) (aCons (eOp oIx (ePeek 0) (eC (.int 2))) (aCons (eOp oIx (ePeek 0) (eC (.int 3))) (aNil)))))))))
  (sRet (eOp oMod (ePeek 3) (ePeek 1)))))
def m__law_draw : FM := fnM 2 5 b__law_draw
theorem sc__law_draw : FnScope ["_law_purse_here", "_law_many", "_law_drawn", "_law_found", "_law_piece"] ["_law_purse_here", "_law_many"] (defScope s__law_draw) := ⟨rfl, rfl, rfl, by decide +kernel, rfl, by decide +kernel, by decide +kernel⟩
theorem ok__law_draw (T : Txt0 K mg C_Sights) : OkF P w K mg base 2 "_law_draw" ["_law_purse_here", "_law_many"] m__law_draw := by
  refine okF_mk (nm := ["_law_purse_here", "_law_many", "_law_drawn", "_law_found", "_law_piece"]) T.F__law_draw sc__law_draw (fun _ _ _ _ _ _ us hl => match us, hl with | [_, _], _ => rfl) (fun f cdv A outer s H E hr => ?_)
  have hr1 : Room 1 _ := hr.mono (by decide)
  exact s_cons (s_if (d_testC (d_peek (d_gt (d_peek (d_ix (d_look 0) (d_peek (d_int)))) (d_peek (d_int)))))
      (s_cons (s_set (i := 2) sc__law_draw.nd (d_mod (d_peek (d_ix (d_look 0) (d_peek (d_int)))) (d_look 1)))
      (s_cons (s_putC (d_div (d_peek (d_ix (d_look 0) (d_peek (d_int)))) (d_look 1)) (d_var 0) (d_peek (d_int)) (fun _ => rfl))
      (s_one (s_ret (d_var 2)))))
      (s_nil))
      (s_cons (s_set (i := 3) sc__law_draw.nd (d_int))
      (s_cons (s_for PassesOwn.never rfl (i_rg1 (T.n_range) (p_cons (d_peek (d_add (d_peek (d_int)) (d_peek (d_div (d_peek (d_bits (d_look 1))) (d_peek (d_int)))))) (p_nil))) (t_name (i := 4) sc__law_draw.nd) (gok_name 4)
      (s_cons (s_putC (d_add (d_peek (d_ix (d_look 0) (d_peek (d_int)))) (d_peek (d_int))) (d_var 0) (d_peek (d_int)) (fun _ => rfl))
      (s_one (s_set (i := 3) sc__law_draw.nd (d_add (d_peek (d_mul (d_look 3) (d_peek (d_int)))) (d_peek (c_call (ok__law_mixed T) hr1 (a_cons (d_ix (d_look 0) (d_peek (d_int))) (a_cons (d_ix (d_look 0) (d_peek (d_int))) (a_cons (d_ix (d_look 0) (d_peek (d_int))) (a_nil)))))))))))
      (s_one (s_ret (d_mod (d_look 3) (d_look 1))))))
/-! ### _law_word -/
def b__law_word : SS := sSeq (sSet 1 (eC (.str "")))
  (sSeq (sFor (iRg1 (aCons (eOp oAdd (eC (.int 1)) (eCall m__law_draw [] (aCons (eVar 0) (aCons (eC (.int 8)) (aNil))))) (aNil))) (asgN 2)
  (sSet 1 (eOp oAdd (ePeek 1) (eOp oIx (eC (.str "abcdefghijklmnopqrstuvwxyz")) (eCall m__law_draw [] (aCons (eVar 0) (aCons (eC (.int 26)) (aNil))))))))
  (sRet (eVar 1)))
def m__law_word : FM := fnM 1 3 b__law_word
theorem sc__law_word : FnScope ["_law_purse_here", "_law_found", "_law_turn"] ["_law_purse_here"] (defScope s__law_word) := ⟨rfl, rfl, rfl, by decide +kernel, rfl, by decide +kernel, by decide +kernel⟩
theorem ok__law_word (T : Txt0 K mg C_Sights) : OkF P w K mg base 3 "_law_word" ["_law_purse_here"] m__law_word := by
  refine okF_mk (nm := ["_law_purse_here", "_law_found", "_law_turn"]) T.F__law_word sc__law_word (fun _ _ _ _ _ _ us hl => match us, hl with | [_], _ => rfl) (fun f cdv A outer s H E hr => ?_)
  have hr2 : Room 2 _ := hr.mono (by decide)
  exact s_cons (s_set (i := 1) sc__law_word.nd (d_str))
      (s_cons (s_for PassesOwn.never rfl (i_rg1 (T.n_range) (p_cons (d_peek (d_add (d_peek (d_int)) (d_peek (c_call (ok__law_draw T) hr2 (a_cons (d_var 0) (a_cons (d_int) (a_nil))))))) (p_nil))) (t_name (i := 2) sc__law_word.nd) (gok_name 2)
      (s_one (s_set (i := 1) sc__law_word.nd (d_add (d_look 1) (d_peek (d_ix (d_peek (d_str)) (d_peek (c_call (ok__law_draw T) hr2 (a_cons (d_var 0) (a_cons (d_int) (a_nil)))))))))))
      (s_one (s_ret (d_var 1))))
/-! ### _law_shuffled -/
def b__law_shuffled : SS := sSeq (sOwn 2 (lDisp (aNil)))
  (sSeq (sFor (iSeq (eVar 1)) (asgN 3)
  (sIns 2 (eCall m__law_draw [] (aCons (eVar 0) (aCons (eOp oAdd (eBi gLen (aCons (ePeek 2) (aNil))) (eC (.int 1))) (aNil)))) (eVar 3)))
  (sFrz 2 (sRet (eVar 2))))
def m__law_shuffled : FM := fnM 2 4 b__law_shuffled
theorem sc__law_shuffled : FnScope ["_law_purse_here", "_law_some", "_law_found", "_law_item"] ["_law_purse_here", "_law_some"] (defScope s__law_shuffled) := ⟨rfl, rfl, rfl, by decide +kernel, rfl, by decide +kernel, by decide +kernel⟩
theorem ok__law_shuffled (T : Txt0 K mg C_Sights) : OkF P w K mg base 3 "_law_shuffled" ["_law_purse_here", "_law_some"] m__law_shuffled := by
  refine okF_mk (nm := ["_law_purse_here", "_law_some", "_law_found", "_law_item"]) T.F__law_shuffled sc__law_shuffled (fun _ _ _ _ _ _ us hl => match us, hl with | [_, _], _ => rfl) (fun f cdv A outer s H E hr => ?_)
  have hr2 : Room 2 _ := hr.mono (by decide)
  exact s_cons (s_own (i := 2) sc__law_shuffled.nd (d_lst (a_nil)))
      (s_cons (s_for PassesOwn.never rfl (i_seq (d_var 1)) (t_name (i := 3) sc__law_shuffled.nd) (gok_name 3)
      (s_one (s_ins (i := 2) (d_peek (c_call (ok__law_draw T) hr2 (a_cons (d_var 0) (a_cons (d_add (d_peek (d_len (T.n_len) (p_cons (d_look 2) (p_nil)))) (d_peek (d_int))) (a_nil))))) (d_var 3))))
      (s_one (s_frz 2 (s_ret (d_var 2)))))
/-! ### _law_names -/
def b__law_names : SS := sSeq (sUnp [2, 3] (eTup (aCons (eL (lDisp (aCons (eC (.str "ann")) (aCons (eC (.str "a")) (aCons (eC (.str "ab")) (aCons (eC (.str "b")) (aCons (eC (.str "first")) (aCons (eC (.str "of")) (aCons (eC (.str "end")) (aCons (eC (.str "zzzzzzzz")) (aNil))))))))))) (aCons (eCall m__law_word [] (aCons (eVar 0) (aNil))) (aNil)))))
  (sRet (eL (eSl slL (eCall m__law_shuffled [] (aCons (eVar 0) (aCons (eOp oAdd (ePeek 2) (eL (lComp (iSeq (eL (lDisp (aCons (eVar 3) (aNil))))) (asgN 4) (bOf (eOp (oInL true) (ePeek 4) (ePeek 2))) (eVar 4) [4]))) (aNil)))) (oNone) (oSome (ePeek 1)))))
def m__law_names : FM := fnM 2 5 b__law_names
theorem sc__law_names : FnScope ["_law_purse_here", "_law_many", "_law_some", "_law_fresh", "_law_word_here"] ["_law_purse_here", "_law_many"] (defScope s__law_names) := ⟨rfl, rfl, rfl, by decide +kernel, rfl, by decide +kernel, by decide +kernel⟩
theorem ok__law_names (T : Txt0 K mg C_Sights) : OkF P w K mg base 4 "_law_names" ["_law_purse_here", "_law_many"] m__law_names := by
  refine okF_mk (nm := ["_law_purse_here", "_law_many", "_law_some", "_law_fresh", "_law_word_here"]) T.F__law_names sc__law_names (fun _ _ _ _ _ _ us hl => match us, hl with | [_, _], _ => rfl) (fun f cdv A outer s H E hr => ?_)
  have hr3 : Room 3 _ := hr.mono (by decide)
  exact s_cons (s_unp (is := [2, 3]) rfl (d_tup (a_cons (d_give (d_lst (a_cons (d_str) (a_cons (d_str) (a_cons (d_str) (a_cons (d_str) (a_cons (d_str) (a_cons (d_str) (a_cons (d_str) (a_cons (d_str) (a_nil))))))))))) (a_cons (c_call (ok__law_word T) hr3 (a_cons (d_var 0) (a_nil))) (a_nil)))) (g_cons (i := 2) sc__law_names.nd (g_cons (i := 3) sc__law_names.nd (g_nil))))
      (s_one (s_ret (d_give (d_slL (d_peek (c_call (ok__law_shuffled T) hr3 (a_cons (d_var 0) (a_cons (d_add (d_look 2) (d_peek (d_give (d_lc rfl sc__law_names.nd (i_seq (d_give (d_lst (a_cons (d_var 3) (a_nil))))) (blkOk_by (own := [("_law_word_here", 4)]) (by first | (show blkC ["_law_purse_here", "_law_many", "_law_some", "_law_fresh", "_law_word_here"] (defScope s__law_names) _ _ = true; decide +kernel) | kernel_rfl | rfl)) (fun _ _ _ _ _ => t_name (i := 4) sc__law_names.nd) (gok_name 4) (by decide) (fun _ _ _ _ _ => pts_oneT (d_testC (d_peek (d_ninL (u65 hr) (d_look 4) (d_look 2))))) (fun _ _ _ _ _ => d_var 4))))) (a_nil))))) (o_none) (o_some (d_look 1))))))
/-! ### _law_one_of -/
def b__law_one_of : SS := sRet (eOp oIx (ePeek 1) (eCall m__law_draw [] (aCons (eVar 0) (aCons (eBi gLen (aCons (ePeek 1) (aNil))) (aNil)))))
def m__law_one_of : FM := fnM 2 2 b__law_one_of
theorem sc__law_one_of : FnScope ["_law_purse_here", "_law_some"] ["_law_purse_here", "_law_some"] (defScope s__law_one_of) := ⟨rfl, rfl, rfl, by decide +kernel, rfl, by decide +kernel, by decide +kernel⟩
theorem ok__law_one_of (T : Txt0 K mg C_Sights) : OkF P w K mg base 3 "_law_one_of" ["_law_purse_here", "_law_some"] m__law_one_of := by
  refine okF_mk (nm := ["_law_purse_here", "_law_some"]) T.F__law_one_of sc__law_one_of (fun _ _ _ _ _ _ us hl => match us, hl with | [_, _], _ => rfl) (fun f cdv A outer s H E hr => ?_)
  have hr2 : Room 2 _ := hr.mono (by decide)
  exact s_one (s_ret (d_ix (d_look 1) (d_peek (c_call (ok__law_draw T) hr2 (a_cons (d_var 0) (a_cons (d_len (T.n_len) (p_cons (d_look 1) (p_nil))) (a_nil)))))))
/-! ### _law_hidden -/
def b__law_hidden : SS := sSeq (sOwn 3 (lDisp (aNil)))
  (sSeq (sFor (iRg1 (aCons (eOp oAdd (eC (.int 1)) (eCall m__law_draw [] (aCons (eVar 0) (aCons (eC (.int 3)) (aNil))))) (aNil))) (asgN 4)
  (sSeq (sSet 5 (eL (eSl slL (eCall m__law_shuffled [] (aCons (eVar 0) (aCons (eVar 1) (aNil)))) (oNone) (oSome (eOp oAdd (eC (.int 1)) (eCall m__law_draw [] (aCons (eVar 0) (aCons (eBi gLen (aCons (ePeek 1) (aNil))) (aNil)))))))))
  (sSeq (sSet 6 (eCall m__law_one_of [] (aCons (eVar 0) (aCons (eL (lDisp (aCons (eC (.int 0)) (aCons (eC (.int 0)) (aCons (eC (.int 0)) (aCons (eOp oPow (eC (.int 10)) (eC (.int 11))) (aCons (eNeg (eOp oPow (eC (.int 10)) (eC (.int 9)))) (aNil)))))))) (aNil)))))
  (sSeq (sSet 7 (eL (lComp (iSeq (eVar 5)) (asgN 8) (bYes) (eIf (bOf (eOp oIsN (ePeek 2) (eC .non))) (eOp oSub (eOp oAdd (ePeek 6) (eCall m__law_draw [] (aCons (eVar 0) (aCons (eC (.int 6)) (aNil))))) (eC (.int 2))) (eCall m__law_draw [] (aCons (eVar 0) (aCons (eOp oAdd (ePeek 2) (eC (.int 1))) (aNil))))) [8])))
  (sApp 3 (eD (eBi gDictP (aCons (eL (eZipL (aCons (ePeek 5) (aCons (ePeek 7) (aNil))))) (aNil)))))))))
  (sFrz 3 (sRet (eVar 3))))
def m__law_hidden : FM := fnM 3 9 b__law_hidden
theorem sc__law_hidden : FnScope ["_law_purse_here", "_law_names_here", "_law_most", "_law_found", "_law_turn", "_law_some", "_law_far", "_law_waits", "_law_name"] ["_law_purse_here", "_law_names_here", "_law_most"] (defScope s__law_hidden) := ⟨rfl, rfl, rfl, by decide +kernel, rfl, by decide +kernel, by decide +kernel⟩
theorem ok__law_hidden (T : Txt0 K mg C_Sights) : OkF P w K mg base 4 "_law_hidden" ["_law_purse_here", "_law_names_here", "_law_most"] m__law_hidden := by
  refine okF_mk (nm := ["_law_purse_here", "_law_names_here", "_law_most", "_law_found", "_law_turn", "_law_some", "_law_far", "_law_waits", "_law_name"]) T.F__law_hidden sc__law_hidden (fun _ _ _ _ _ _ us hl => match us, hl with | [_, _, _], _ => rfl) (fun f cdv A outer s H E hr => ?_)
  have hr2 : Room 2 _ := hr.mono (by decide)
  have hr3 : Room 3 _ := hr.mono (by decide)
  exact s_cons (s_own (i := 3) sc__law_hidden.nd (d_lst (a_nil)))
      (s_cons (s_for PassesOwn.never rfl (i_rg1 (T.n_range) (p_cons (d_peek (d_add (d_peek (d_int)) (d_peek (c_call (ok__law_draw T) hr2 (a_cons (d_var 0) (a_cons (d_int) (a_nil))))))) (p_nil))) (t_name (i := 4) sc__law_hidden.nd) (gok_name 4)
      (s_cons (s_set (i := 5) sc__law_hidden.nd (d_give (d_slL (d_peek (c_call (ok__law_shuffled T) hr3 (a_cons (d_var 0) (a_cons (d_var 1) (a_nil))))) (o_none) (o_some (d_peek (d_add (d_peek (d_int)) (d_peek (c_call (ok__law_draw T) hr2 (a_cons (d_var 0) (a_cons (d_len (T.n_len) (p_cons (d_look 1) (p_nil))) (a_nil)))))))))))
      (s_cons (s_set (i := 6) sc__law_hidden.nd (c_call (ok__law_one_of T) hr3 (a_cons (d_var 0) (a_cons (d_give (d_lst (a_cons (d_int) (a_cons (d_int) (a_cons (d_int) (a_cons (d_pow (d_peek (d_int)) (d_peek (d_int))) (a_cons (d_neg (d_peek (d_pow (d_peek (d_int)) (d_peek (d_int))))) (a_nil)))))))) (a_nil)))))
      (s_cons (s_lc (i := 7) rfl sc__law_hidden.nd rfl rfl (sw_true rfl rfl rfl (by decide +kernel)) (i_seq (d_var 5)) (blkOk_by (own := [("_law_name", 8)]) (by first | (show blkC ["_law_purse_here", "_law_names_here", "_law_most", "_law_found", "_law_turn", "_law_some", "_law_far", "_law_waits", "_law_name"] (defScope s__law_hidden) _ _ = true; decide +kernel) | kernel_rfl | rfl)) (fun _ _ _ _ _ => t_name (i := 8) sc__law_hidden.nd) (gok_name 8) (by decide) (fun _ _ _ _ _ => pts_nilT) (fun _ _ _ _ _ => d_if (d_testC (d_peek (d_isN (d_look 2) (d_peek (d_non))))) (d_sub (d_peek (d_add (d_look 6) (d_peek (c_call (ok__law_draw T) hr2 (a_cons (d_var 0) (a_cons (d_int) (a_nil))))))) (d_peek (d_int))) (c_call (ok__law_draw T) hr2 (a_cons (d_var 0) (a_cons (d_add (d_look 2) (d_peek (d_int))) (a_nil))))))
      (s_one (s_app (i := 3) (d_giveD (d_dictP rfl T.n_dict (p_cons (d_peek (d_give (d_zipL rfl (T.n_list) (T.n_zip) (p_cons (d_look 5) (p_cons (d_look 7) (p_nil)))))) (p_nil))))))))))
      (s_one (s_frz 3 (s_ret (d_var 3)))))
/-! ### _law_spot -/
def b__law_spot : SS := sRet (eCall m__law_one_of [] (aCons (eVar 0) (aCons (eL (lDisp (aCons (eC (.int 0)) (aCons (eC (.int 0)) (aCons (eC (.int 1)) (aCons (eC (.int 2)) (aCons (eC (.int 3)) (aCons (eC (.int 4)) (aCons (eNeg (eC (.int 1))) (aCons (eCall m__law_draw [] (aCons (eVar 0) (aCons (eC (.int 7)) (aNil)))) (aNil))))))))))) (aNil))))
def m__law_spot : FM := fnM 1 1 b__law_spot
theorem sc__law_spot : FnScope ["_law_purse_here"] ["_law_purse_here"] (defScope s__law_spot) := ⟨rfl, rfl, rfl, by decide +kernel, rfl, by decide +kernel, by decide +kernel⟩
theorem ok__law_spot (T : Txt0 K mg C_Sights) : OkF P w K mg base 4 "_law_spot" ["_law_purse_here"] m__law_spot := by
  refine okF_mk (nm := ["_law_purse_here"]) T.F__law_spot sc__law_spot (fun _ _ _ _ _ _ us hl => match us, hl with | [_], _ => rfl) (fun f cdv A outer s H E hr => ?_)
  have hr2 : Room 2 _ := hr.mono (by decide)
  have hr3 : Room 3 _ := hr.mono (by decide)
  exact s_one (s_ret (c_call (ok__law_one_of T) hr3 (a_cons (d_var 0) (a_cons (d_give (d_lst (a_cons (d_int) (a_cons (d_int) (a_cons (d_int) (a_cons (d_int) (a_cons (d_int) (a_cons (d_int) (a_cons (d_neg (d_peek (d_int))) (a_cons (c_call (ok__law_draw T) hr2 (a_cons (d_var 0) (a_cons (d_int) (a_nil)))) (a_nil))))))))))) (a_nil)))))
/-! ### _law_row_hour -/
def b__law_row_hour : SS := sRet (eBi gMax (aCons (eL (lComp (iKy 0) (asgN 2) (bYes) (eOp oAdd (eOp oDx (ePeek 1) (ePeek 2)) (eOp oDx (ePeek 0) (ePeek 2))) [2])) (aNil)))
def m__law_row_hour : FM := fnM 2 3 b__law_row_hour
theorem sc__law_row_hour : FnScope ["_law_row", "_law_hours", "_law_key"] ["_law_row", "_law_hours"] (defScope s__law_row_hour) := ⟨rfl, rfl, rfl, by decide +kernel, rfl, by decide +kernel, by decide +kernel⟩
theorem ok__law_row_hour (T : Txt0 K mg C_Sights) : OkF P w K mg base 1 "_law_row_hour" ["_law_row", "_law_hours"] m__law_row_hour := by
  refine okF_mk (nm := ["_law_row", "_law_hours", "_law_key"]) T.F__law_row_hour sc__law_row_hour (fun _ _ _ _ _ _ us hl => match us, hl with | [_, _], _ => rfl) (fun f cdv A outer s H E hr => ?_)
  exact s_one (s_ret (d_max rfl (T.n_max) (p_cons (d_peek (d_give (d_lcK 0 rfl sc__law_row_hour.nd (blkOk_by (own := [("_law_key", 2)]) (by first | (show blkC ["_law_row", "_law_hours", "_law_key"] (defScope s__law_row_hour) _ _ = true; decide +kernel) | kernel_rfl | rfl)) (fun _ _ _ _ _ => t_name (i := 2) sc__law_row_hour.nd) (gok_name 2) (by decide) (fun _ _ _ _ _ => pts_nilT) (fun _ _ _ _ _ => d_add (d_peek (d_dx (u1 hr) (d_look 1) (d_look 2))) (d_peek (d_dx (u1 hr) (d_look 0) (d_look 2))))))) (p_nil))))
/-! ### _law_first_told -/
def b__law_first_told : SS := sRet (eBi gMin (aCons (eL (lComp (iSeq (eVar 0)) (asgN 2) (bYes) (eCall m__law_row_hour [] (aCons (eVar 2) (aCons (eVar 1) (aNil)))) [2])) (aNil)))
def m__law_first_told : FM := fnM 2 3 b__law_first_told
theorem sc__law_first_told : FnScope ["_law_lots", "_law_hours", "_law_row"] ["_law_lots", "_law_hours"] (defScope s__law_first_told) := ⟨rfl, rfl, rfl, by decide +kernel, rfl, by decide +kernel, by decide +kernel⟩
theorem ok__law_first_told (T : Txt0 K mg C_Sights) : OkF P w K mg base 2 "_law_first_told" ["_law_lots", "_law_hours"] m__law_first_told := by
  refine okF_mk (nm := ["_law_lots", "_law_hours", "_law_row"]) T.F__law_first_told sc__law_first_told (fun _ _ _ _ _ _ us hl => match us, hl with | [_, _], _ => rfl) (fun f cdv A outer s H E hr => ?_)
  have hr1 : Room 1 _ := hr.mono (by decide)
  exact s_one (s_ret (d_min rfl (T.n_min) (p_cons (d_peek (d_give (d_lc rfl sc__law_first_told.nd (i_seq (d_var 0)) (blkOk_by (own := [("_law_row", 2)]) (by first | (show blkC ["_law_lots", "_law_hours", "_law_row"] (defScope s__law_first_told) _ _ = true; decide +kernel) | kernel_rfl | rfl)) (fun _ _ _ _ _ => t_name (i := 2) sc__law_first_told.nd) (gok_name 2) (by decide) (fun _ _ _ _ _ => pts_nilT) (fun _ _ _ _ _ => c_call (ok__law_row_hour T) hr1 (a_cons (d_var 2) (a_cons (d_var 1) (a_nil))))))) (p_nil))))
/-! ### _law_sight -/
def b__law_sight : SS := sSeq (sSet 4 (eD (eBi gDictP (aCons (eL (lComp (iSeq (eVar 1)) (asgN 5) (bYes) (eTup (aCons (eVar 5) (aCons (eOp oAdd (ePeek 3) (eCall m__law_spot [] (aCons (eVar 0) (aNil)))) (aNil)))) [5])) (aNil)))))
  (sSeq (sSet 6 (eOp oAdd (eCall m__law_first_told [] (aCons (eVar 2) (aCons (eVar 4) (aNil)))) (eCall m__law_one_of [] (aCons (eVar 0) (aCons (eL (lDisp (aCons (eC (.int 0)) (aCons (eC (.int 0)) (aCons (eC (.int 0)) (aCons (eC (.int 0)) (aCons (eC (.int 0)) (aCons (eC (.int 0)) (aCons (eC (.int 1)) (aCons (eNeg (eC (.int 1))) (aCons (eC (.int 2)) (aNil)))))))))))) (aNil))))))
  (sSeq (sPar 7 8 (.val (eOp oSub (ePeek 6) (eOp oDiv (eCall m__law_draw [] (aCons (eVar 0) (aCons (eC (.int 4)) (aNil)))) (eC (.int 3))))) (.val (eOp oAdd (ePeek 6) (eOp oDiv (eCall m__law_draw [] (aCons (eVar 0) (aCons (eC (.int 4)) (aNil)))) (eC (.int 3))))))
  (sSeq (sIf (bOf (eOp oEq (eCall m__law_draw [] (aCons (eVar 0) (aCons (eC (.int 5)) (aNil)))) (eC (.int 0))))
  (sSet 7 (eC .non))
  (sNil))
  (sSeq (sIf (bOf (eOp oEq (eCall m__law_draw [] (aCons (eVar 0) (aCons (eC (.int 5)) (aNil)))) (eC (.int 0))))
  (sSet 8 (eC .non))
  (sNil))
  (sRet (eTup (aCons (eVar 4) (aCons (eVar 7) (aCons (eVar 8) (aNil))))))))))
def m__law_sight : FM := fnM 4 9 b__law_sight
theorem sc__law_sight : FnScope ["_law_purse_here", "_law_names_here", "_law_hidden_here", "_law_base", "_law_hours", "_law_name", "_law_hour", "_law_low", "_law_high"] ["_law_purse_here", "_law_names_here", "_law_hidden_here", "_law_base"] (defScope s__law_sight) := ⟨rfl, rfl, rfl, by decide +kernel, rfl, by decide +kernel, by decide +kernel⟩
theorem ok__law_sight (T : Txt0 K mg C_Sights) : OkF P w K mg base 5 "_law_sight" ["_law_purse_here", "_law_names_here", "_law_hidden_here", "_law_base"] m__law_sight := by
  refine okF_mk (nm := ["_law_purse_here", "_law_names_here", "_law_hidden_here", "_law_base", "_law_hours", "_law_name", "_law_hour", "_law_low", "_law_high"]) T.F__law_sight sc__law_sight (fun _ _ _ _ _ _ us hl => match us, hl with | [_, _, _, _], _ => rfl) (fun f cdv A outer s H E hr => ?_)
  have hr2 : Room 2 _ := hr.mono (by decide)
  have hr3 : Room 3 _ := hr.mono (by decide)
  have hr4 : Room 4 _ := hr.mono (by decide)
  exact s_cons (s_set (i := 4) sc__law_sight.nd (d_giveD (d_dictP rfl T.n_dict (p_cons (d_peek (d_give (d_lc rfl sc__law_sight.nd (i_seq (d_var 1)) (blkOk_by (own := [("_law_name", 5)]) (by first | (show blkC ["_law_purse_here", "_law_names_here", "_law_hidden_here", "_law_base", "_law_hours", "_law_name", "_law_hour", "_law_low", "_law_high"] (defScope s__law_sight) _ _ = true; decide +kernel) | kernel_rfl | rfl)) (fun _ _ _ _ _ => t_name (i := 5) sc__law_sight.nd) (gok_name 5) (by decide) (fun _ _ _ _ _ => pts_nilT) (fun _ _ _ _ _ => d_tup (a_cons (d_var 5) (a_cons (d_add (d_look 3) (d_peek (c_call (ok__law_spot T) hr4 (a_cons (d_var 0) (a_nil))))) (a_nil))))))) (p_nil)))))
      (s_cons (s_set (i := 6) sc__law_sight.nd (d_add (d_peek (c_call (ok__law_first_told T) hr2 (a_cons (d_var 2) (a_cons (d_var 4) (a_nil))))) (d_peek (c_call (ok__law_one_of T) hr3 (a_cons (d_var 0) (a_cons (d_give (d_lst (a_cons (d_int) (a_cons (d_int) (a_cons (d_int) (a_cons (d_int) (a_cons (d_int) (a_cons (d_int) (a_cons (d_int) (a_cons (d_neg (d_peek (d_int))) (a_cons (d_int) (a_nil)))))))))))) (a_nil)))))))
      (s_cons (s_par (i := 7) (j := 8) (ka := .val (eOp oSub (ePeek 6) (eOp oDiv (eCall m__law_draw [] (aCons (eVar 0) (aCons (eC (.int 4)) (aNil)))) (eC (.int 3))))) (kb := .val (eOp oAdd (ePeek 6) (eOp oDiv (eCall m__law_draw [] (aCons (eVar 0) (aCons (eC (.int 4)) (aNil)))) (eC (.int 3))))) sc__law_sight.nd (k_val (d_sub (d_look 6) (d_peek (d_div (d_peek (c_call (ok__law_draw T) hr2 (a_cons (d_var 0) (a_cons (d_int) (a_nil))))) (d_peek (d_int)))))) (k_val (d_add (d_look 6) (d_peek (d_div (d_peek (c_call (ok__law_draw T) hr2 (a_cons (d_var 0) (a_cons (d_int) (a_nil))))) (d_peek (d_int)))))))
      (s_cons (s_if (d_testC (d_peek (d_eq hr.units (d_peek (c_call (ok__law_draw T) hr2 (a_cons (d_var 0) (a_cons (d_int) (a_nil))))) (d_peek (d_int)))))
      (s_one (s_set (i := 7) sc__law_sight.nd (d_non)))
      (s_nil))
      (s_cons (s_if (d_testC (d_peek (d_eq hr.units (d_peek (c_call (ok__law_draw T) hr2 (a_cons (d_var 0) (a_cons (d_int) (a_nil))))) (d_peek (d_int)))))
      (s_one (s_set (i := 8) sc__law_sight.nd (d_non)))
      (s_nil))
      (s_one (s_ret (d_tup (a_cons (d_var 4) (a_cons (d_var 7) (a_cons (d_var 8) (a_nil)))))))))))
/-! ### _law_seen -/
def b__law_seen : SS := sSeq (sPar 4 5 (.val (eCall m__law_hidden [] (aCons (eVar 0) (aCons (eVar 1) (aCons (eVar 2) (aNil)))))) (.own (lDisp (aNil))))
  (sSeq (sFor (iRg1 (aCons (ePeek 3) (aNil))) (asgN 6)
  (sSeq (sSet 7 (eCall m__law_one_of [] (aCons (eVar 0) (aCons (eL (lDisp (aCons (eC (.int 0)) (aCons (eC (.int 0)) (aCons (eC (.int 0)) (aCons (eC (.int 0)) (aCons (eOp oPow (eC (.int 10)) (eC (.int 28))) (aCons (eNeg (eC (.int 7))) (aNil))))))))) (aNil)))))
  (sApp 5 (eCall m__law_sight [] (aCons (eVar 0) (aCons (eVar 1) (aCons (eVar 4) (aCons (eVar 7) (aNil)))))))))
  (sFrz 5 (sRet (eVar 5))))
def m__law_seen : FM := fnM 4 8 b__law_seen
theorem sc__law_seen : FnScope ["_law_purse_here", "_law_names_here", "_law_most", "_law_many", "_law_hidden_here", "_law_found", "_law_turn", "_law_base"] ["_law_purse_here", "_law_names_here", "_law_most", "_law_many"] (defScope s__law_seen) := ⟨rfl, rfl, rfl, by decide +kernel, rfl, by decide +kernel, by decide +kernel⟩
theorem ok__law_seen (T : Txt0 K mg C_Sights) : OkF P w K mg base 6 "_law_seen" ["_law_purse_here", "_law_names_here", "_law_most", "_law_many"] m__law_seen := by
  refine okF_mk (nm := ["_law_purse_here", "_law_names_here", "_law_most", "_law_many", "_law_hidden_here", "_law_found", "_law_turn", "_law_base"]) T.F__law_seen sc__law_seen (fun _ _ _ _ _ _ us hl => match us, hl with | [_, _, _, _], _ => rfl) (fun f cdv A outer s H E hr => ?_)
  have hr3 : Room 3 _ := hr.mono (by decide)
  have hr4 : Room 4 _ := hr.mono (by decide)
  have hr5 : Room 5 _ := hr.mono (by decide)
  exact s_cons (s_par (i := 4) (j := 5) (ka := .val (eCall m__law_hidden [] (aCons (eVar 0) (aCons (eVar 1) (aCons (eVar 2) (aNil)))))) (kb := .own (lDisp (aNil))) sc__law_seen.nd (k_val (c_call (ok__law_hidden T) hr4 (a_cons (d_var 0) (a_cons (d_var 1) (a_cons (d_var 2) (a_nil)))))) (k_own (d_lst (a_nil))))
      (s_cons (s_for PassesOwn.never rfl (i_rg1 (T.n_range) (p_cons (d_look 3) (p_nil))) (t_name (i := 6) sc__law_seen.nd) (gok_name 6)
      (s_cons (s_set (i := 7) sc__law_seen.nd (c_call (ok__law_one_of T) hr3 (a_cons (d_var 0) (a_cons (d_give (d_lst (a_cons (d_int) (a_cons (d_int) (a_cons (d_int) (a_cons (d_int) (a_cons (d_pow (d_peek (d_int)) (d_peek (d_int))) (a_cons (d_neg (d_peek (d_int))) (a_nil))))))))) (a_nil)))))
      (s_one (s_app (i := 5) (c_call (ok__law_sight T) hr5 (a_cons (d_var 0) (a_cons (d_var 1) (a_cons (d_var 4) (a_cons (d_var 7) (a_nil))))))))))
      (s_one (s_frz 5 (s_ret (d_var 5)))))
/-! ### _law_copied -/
def b__law_copied : SS := sRet (eL (lComp (iSeq (eVar 0)) (asgT [1, 2, 3]) (bYes) (eTup (aCons (eD (eBi gDictD (aCons (ePeek 1) (aNil)))) (aCons (eVar 2) (aCons (eVar 3) (aNil))))) [1, 2, 3]))
def m__law_copied : FM := fnM 1 4 b__law_copied
theorem sc__law_copied : FnScope ["_law_seen_here", "_law_hours", "_law_low", "_law_high"] ["_law_seen_here"] (defScope s__law_copied) := ⟨rfl, rfl, rfl, by decide +kernel, rfl, by decide +kernel, by decide +kernel⟩
theorem ok__law_copied (T : Txt0 K mg C_Sights) : OkF P w K mg base 1 "_law_copied" ["_law_seen_here"] m__law_copied := by
  refine okF_mk (nm := ["_law_seen_here", "_law_hours", "_law_low", "_law_high"]) T.F__law_copied sc__law_copied (fun _ _ _ _ _ _ us hl => match us, hl with | [_], _ => rfl) (fun f cdv A outer s H E hr => ?_)
  exact s_one (s_ret (d_give (d_lc rfl sc__law_copied.nd (i_seq (d_var 0)) (blkOk_by (own := [("_law_hours", 1), ("_law_low", 2), ("_law_high", 3)]) (by first | (show blkC ["_law_seen_here", "_law_hours", "_law_low", "_law_high"] (defScope s__law_copied) _ _ = true; decide +kernel) | kernel_rfl | rfl)) (fun _ _ _ _ _ => t_tup rfl (g_cons (i := 1) sc__law_copied.nd (g_cons (i := 2) sc__law_copied.nd (g_cons (i := 3) sc__law_copied.nd (g_nil)))) (n := 3)) (gok_tup [1, 2, 3] 3 rfl) (by decide) (fun _ _ _ _ _ => pts_nilT) (fun _ _ _ _ _ => d_tup (a_cons (d_giveD (d_dictD T.n_dict (p_cons (d_look 1) (p_nil)))) (a_cons (d_var 2) (a_cons (d_var 3) (a_nil))))))))
/-! ### is_name -/
def b_is_name : SS := sSeq (sIf (bOr (bNot (bOf (eBi (gIsi CS) (aCons (ePeek 0) (aCons (eC (.ty "str")) (aNil)))))) (bOr (bOf (eOp oLt (eBi gLen (aCons (ePeek 0) (aNil))) (eC (.int 1)))) (bOf (eOp oGt (eBi gLen (aCons (ePeek 0) (aNil))) (eC (.int 8))))))
  (sRet (eC (.bl false)))
  (sNil))
  (sRet (eOp oEq (eL (lComp (iSgn (ePeek 0)) (asgN 1) (bOf (eOp (oInS true) (ePeek 1) (eC (.str "abcdefghijklmnopqrstuvwxyz")))) (eVar 1) [1])) (eL (lDisp (aNil)))))
def m_is_name : FM := fnM 1 2 b_is_name
theorem sc_is_name : FnScope ["value", "sign"] ["value"] (defScope s_is_name) := ⟨rfl, rfl, rfl, by decide +kernel, rfl, by decide +kernel, by decide +kernel⟩
theorem ok_is_name (T : Txt0 K mg C_Sights) : OkF P w K mg base 1 "is_name" ["value"] m_is_name := by
  refine okF_mk (nm := ["value", "sign"]) T.F_is_name sc_is_name (fun _ _ _ _ _ _ us hl => match us, hl with | [_], _ => rfl) (fun f cdv A outer s H E hr => ?_)
  exact s_cons (s_if (w_pt (w_or (d_not (d_test (d_peek (d_isi T.isi (T.n_isinstance) (p_cons (d_look 0) (p_cons (d_peek (d_ty (by rfl) (T.n_str) (by rfl))) (p_nil))))))) (w_or (d_testC (d_peek (d_lt (d_peek (d_len (T.n_len) (p_cons (d_look 0) (p_nil)))) (d_peek (d_int))))) (w_or1 (d_testC (d_peek (d_gt (d_peek (d_len (T.n_len) (p_cons (d_look 0) (p_nil)))) (d_peek (d_int)))))))))
      (s_one (s_ret (d_bl)))
      (s_nil))
      (s_one (s_ret (d_eq hr.units (d_peek (d_give (d_lc rfl sc_is_name.nd (i_str (d_look 0)) (blkOk_by (own := [("sign", 1)]) (by first | (show blkC ["value", "sign"] (defScope s_is_name) _ _ = true; decide +kernel) | kernel_rfl | rfl)) (fun _ _ _ _ _ => t_name (i := 1) sc_is_name.nd) (gok_name 1) (by decide) (fun _ _ _ _ _ => pts_oneT (d_testC (d_peek (d_ninS (d_look 1) (d_peek (d_gstr T.g_LETTERS)))))) (fun _ _ _ _ _ => d_var 1)))) (d_peek (d_give (d_lst (a_nil)))))))
/-! ### is_lot -/
def b_is_lot : SS := sSeq (sIf (bOr (bNot (bOf (eBi (gIsi CS) (aCons (ePeek 0) (aCons (eC (.ty "list")) (aNil)))))) (bOr (bOf (eOp oEq (ePeek 0) (eL (lDisp (aNil))))) (bOf (eOp oNe (eL (lComp (iSeq (eVar 0)) (asgN 1) (bNot (bOf (eCall m_is_name [] (aCons (eVar 1) (aNil))))) (eVar 1) [1])) (eL (lDisp (aNil)))))))
  (sRet (eC (.bl false)))
  (sNil))
  (sRet (eOp oEq (ePeek 0) (eL (eSN (ePeek 0)))))
def m_is_lot : FM := fnM 1 2 b_is_lot
theorem sc_is_lot : FnScope ["value", "name"] ["value"] (defScope s_is_lot) := ⟨rfl, rfl, rfl, by decide +kernel, rfl, by decide +kernel, by decide +kernel⟩
theorem ok_is_lot (T : Txt0 K mg C_Sights) : OkF P w K mg base 2 "is_lot" ["value"] m_is_lot := by
  refine okF_mk (nm := ["value", "name"]) T.F_is_lot sc_is_lot (fun _ _ _ _ _ _ us hl => match us, hl with | [_], _ => rfl) (fun f cdv A outer s H E hr => ?_)
  have hr1 : Room 1 _ := hr.mono (by decide)
  exact s_cons (s_if (w_pt (w_or (d_not (d_test (d_peek (d_isi T.isi (T.n_isinstance) (p_cons (d_look 0) (p_cons (d_peek (d_ty (by rfl) (T.n_list) (by rfl))) (p_nil))))))) (w_or (d_testC (d_peek (d_eq hr.units (d_look 0) (d_peek (d_give (d_lst (a_nil))))))) (w_or1 (d_testC (d_peek (d_ne hr.units (d_peek (d_give (d_lc rfl sc_is_lot.nd (i_seq (d_var 0)) (blkOk_by (own := [("name", 1)]) (by first | (show blkC ["value", "name"] (defScope s_is_lot) _ _ = true; decide +kernel) | kernel_rfl | rfl)) (fun _ _ _ _ _ => t_name (i := 1) sc_is_lot.nd) (gok_name 1) (by decide) (fun _ _ _ _ _ => pts_oneT (d_not (d_test (d_peek (c_call (ok_is_name T) hr1 (a_cons (d_var 1) (a_nil))))))) (fun _ _ _ _ _ => d_var 1)))) (d_peek (d_give (d_lst (a_nil)))))))))))
      (s_one (s_ret (d_bl)))
      (s_nil))
      (s_one (s_ret (d_eq hr.units (d_look 0) (d_peek (d_give (d_sn rfl T.n_sorted T.n_set (d_look 0)))))))
/-! ### is_whole -/
def b_is_whole : SS := sRet (eAnd (eBi (gIsi CS) (aCons (ePeek 0) (aCons (eC (.ty "int")) (aNil)))) (eNot (eBi (gIsi CS) (aCons (ePeek 0) (aCons (eC (.ty "bool")) (aNil))))))
def m_is_whole : FM := fnM 1 1 b_is_whole
theorem sc_is_whole : FnScope ["value"] ["value"] (defScope s_is_whole) := ⟨rfl, rfl, rfl, by decide +kernel, rfl, by decide +kernel, by decide +kernel⟩
theorem ok_is_whole (T : Txt0 K mg C_Sights) : OkF P w K mg base 1 "is_whole" ["value"] m_is_whole := by
  refine okF_mk (nm := ["value"]) T.F_is_whole sc_is_whole (fun _ _ _ _ _ _ us hl => match us, hl with | [_], _ => rfl) (fun f cdv A outer s H E hr => ?_)
  exact s_one (s_ret (v_and (d_peek (d_isi T.isi (T.n_isinstance) (p_cons (d_look 0) (p_cons (d_peek (d_ty (by rfl) (T.n_int) (by rfl))) (p_nil))))) (v_one (v_not (d_peek (d_isi T.isi (T.n_isinstance) (p_cons (d_look 0) (p_cons (d_peek (d_ty (by rfl) (T.n_bool) (by rfl))) (p_nil)))))))))
/-! ### is_count -/
def b_is_count : SS := sRet (eAnd (eCall m_is_whole [] (aCons (eVar 0) (aNil))) (eOp oGe (ePeek 0) (eC (.int 0))))
def m_is_count : FM := fnM 1 1 b_is_count
theorem sc_is_count : FnScope ["value"] ["value"] (defScope s_is_count) := ⟨rfl, rfl, rfl, by decide +kernel, rfl, by decide +kernel, by decide +kernel⟩
theorem ok_is_count (T : Txt0 K mg C_Sights) : OkF P w K mg base 2 "is_count" ["value"] m_is_count := by
  refine okF_mk (nm := ["value"]) T.F_is_count sc_is_count (fun _ _ _ _ _ _ us hl => match us, hl with | [_], _ => rfl) (fun f cdv A outer s H E hr => ?_)
  have hr1 : Room 1 _ := hr.mono (by decide)
  exact s_one (s_ret (v_and (d_peek (c_call (ok_is_whole T) hr1 (a_cons (d_var 0) (a_nil)))) (v_one (d_ge (d_look 0) (d_peek (d_int))))))
/-! ### is_sight -/
def b_is_sight : SS := sSeq (sIf (bOr (bNot (bOf (eBi (gIsi CS) (aCons (ePeek 0) (aCons (eC (.ty "tuple")) (aNil)))))) (bOf (eOp oNe (eBi gLen (aCons (ePeek 0) (aNil))) (eC (.int 3)))))
  (sRet (eC (.bl false)))
  (sNil))
  (sSeq (sUnp [2, 3, 4] (eVar 0))
  (sSeq (sIf (bOr (bNot (bOf (eBi (gIsi CS) (aCons (ePeek 2) (aCons (eC (.ty "dict")) (aNil)))))) (bOr (bOf (eOp oNe (eBi gLenD (aCons (ePeek 2) (aNil))) (eBi gLen (aCons (ePeek 1) (aNil))))) (bOf (eOp oNe (eL (lComp (iSeq (eVar 1)) (asgN 5) (bOf (eOp (oInK true) (ePeek 5) (ePeek 2))) (eVar 5) [5])) (eL (lDisp (aNil)))))))
  (sRet (eC (.bl false)))
  (sNil))
  (sSeq (sIf (bOf (eOp oNe (eL (lComp (iSeq (eVar 1)) (asgN 5) (bNot (bOf (eCall m_is_whole [] (aCons (eOp oDx (ePeek 2) (ePeek 5)) (aNil))))) (eVar 5) [5])) (eL (lDisp (aNil)))))
  (sRet (eC (.bl false)))
  (sNil))
  (sSeq (sIf (bOf (eOp oNe (eL (lComp (iSeq (eTup (aCons (eVar 3) (aCons (eVar 4) (aNil))))) (asgN 6) (bAnd (bOf (eOp oNotN (ePeek 6) (eC .non))) (bNot (bOf (eCall m_is_whole [] (aCons (eVar 6) (aNil)))))) (eVar 6) [6])) (eL (lDisp (aNil)))))
  (sRet (eC (.bl false)))
  (sNil))
  (sRet (eOr (eOp oIsN (ePeek 3) (eC .non)) (eOr (eOp oIsN (ePeek 4) (eC .non)) (eOp oLe (ePeek 3) (ePeek 4)))))))))
def m_is_sight : FM := fnM 2 7 b_is_sight
theorem sc_is_sight : FnScope ["value", "names", "hours", "low", "high", "name", "end"] ["value", "names"] (defScope s_is_sight) := ⟨rfl, rfl, rfl, by decide +kernel, rfl, by decide +kernel, by decide +kernel⟩
theorem ok_is_sight (T : Txt0 K mg C_Sights) : OkF P w K mg base 2 "is_sight" ["value", "names"] m_is_sight := by
  refine okF_mk (nm := ["value", "names", "hours", "low", "high", "name", "end"]) T.F_is_sight sc_is_sight (fun _ _ _ _ _ _ us hl => match us, hl with | [_, _], _ => rfl) (fun f cdv A outer s H E hr => ?_)
  have hr1 : Room 1 _ := hr.mono (by decide)
  exact s_cons (s_if (w_pt (w_or (d_not (d_test (d_peek (d_isi T.isi (T.n_isinstance) (p_cons (d_look 0) (p_cons (d_peek (d_ty (by rfl) (T.n_tuple) (by rfl))) (p_nil))))))) (w_or1 (d_testC (d_peek (d_ne hr.units (d_peek (d_len (T.n_len) (p_cons (d_look 0) (p_nil)))) (d_peek (d_int))))))))
      (s_one (s_ret (d_bl)))
      (s_nil))
      (s_cons (s_unp (is := [2, 3, 4]) rfl (d_var 0) (g_cons (i := 2) sc_is_sight.nd (g_cons (i := 3) sc_is_sight.nd (g_cons (i := 4) sc_is_sight.nd (g_nil)))))
      (s_cons (s_if (w_pt (w_or (d_not (d_test (d_peek (d_isi T.isi (T.n_isinstance) (p_cons (d_look 2) (p_cons (d_peek (d_ty (by rfl) (T.n_dict) (by rfl))) (p_nil))))))) (w_or (d_testC (d_peek (d_ne hr.units (d_peek (d_lenD T.n_len (p_cons (d_look 2) (p_nil)))) (d_peek (d_len (T.n_len) (p_cons (d_look 1) (p_nil))))))) (w_or1 (d_testC (d_peek (d_ne hr.units (d_peek (d_give (d_lc rfl sc_is_sight.nd (i_seq (d_var 1)) (blkOk_by (own := [("name", 5)]) (by first | (show blkC ["value", "names", "hours", "low", "high", "name", "end"] (defScope s_is_sight) _ _ = true; decide +kernel) | kernel_rfl | rfl)) (fun _ _ _ _ _ => t_name (i := 5) sc_is_sight.nd) (gok_name 5) (by decide) (fun _ _ _ _ _ => pts_oneT (d_testC (d_peek (d_ninK (u1 hr) (d_look 5) (d_look 2))))) (fun _ _ _ _ _ => d_var 5)))) (d_peek (d_give (d_lst (a_nil)))))))))))
      (s_one (s_ret (d_bl)))
      (s_nil))
      (s_cons (s_if (d_testC (d_peek (d_ne hr.units (d_peek (d_give (d_lc rfl sc_is_sight.nd (i_seq (d_var 1)) (blkOk_by (own := [("name", 5)]) (by first | (show blkC ["value", "names", "hours", "low", "high", "name", "end"] (defScope s_is_sight) _ _ = true; decide +kernel) | kernel_rfl | rfl)) (fun _ _ _ _ _ => t_name (i := 5) sc_is_sight.nd) (gok_name 5) (by decide) (fun _ _ _ _ _ => pts_oneT (d_not (d_test (d_peek (c_call (ok_is_whole T) hr1 (a_cons (d_dx (u1 hr) (d_look 2) (d_look 5)) (a_nil))))))) (fun _ _ _ _ _ => d_var 5)))) (d_peek (d_give (d_lst (a_nil)))))))
      (s_one (s_ret (d_bl)))
      (s_nil))
      (s_cons (s_if (d_testC (d_peek (d_ne hr.units (d_peek (d_give (d_lc rfl sc_is_sight.nd (i_seq (d_tup (a_cons (d_var 3) (a_cons (d_var 4) (a_nil))))) (blkOk_by (own := [("end", 6)]) (by first | (show blkC ["value", "names", "hours", "low", "high", "name", "end"] (defScope s_is_sight) _ _ = true; decide +kernel) | kernel_rfl | rfl)) (fun _ _ _ _ _ => t_name (i := 6) sc_is_sight.nd) (gok_name 6) (by decide) (fun _ _ _ _ _ => pts_oneT (w_pt (w_and (d_testC (d_peek (d_notN (d_look 6) (d_peek (d_non))))) (w_and1 (d_not (d_test (d_peek (c_call (ok_is_whole T) hr1 (a_cons (d_var 6) (a_nil)))))))))) (fun _ _ _ _ _ => d_var 6)))) (d_peek (d_give (d_lst (a_nil)))))))
      (s_one (s_ret (d_bl)))
      (s_nil))
      (s_one (s_ret (v_or (d_peek (d_isN (d_look 3) (d_peek (d_non)))) (v_or (d_peek (d_isN (d_look 4) (d_peek (d_non)))) (v_one (d_le (d_look 3) (d_look 4)))))))))))
/-! ### Sights.__init__ -/
def b_Sights___init__ : SS := sSeq (sIf (bNot (bOf (eCall m_is_lot [] (aCons (eVar 1) (aNil)))))
  (sNever)
  (sNil))
  (sSeq (sIf (bAnd (bOf (eOp oNotN (ePeek 2) (eC .non))) (bNot (bOf (eCall m_is_count [] (aCons (eVar 2) (aNil))))))
  (sNever)
  (sNil))
  (sSeq (sIf (bOr (bNot (bOf (eBi (gIsi CS) (aCons (ePeek 3) (aCons (eC (.ty "list")) (aNil)))))) (bOf (eOp oNe (eL (lComp (iSeq (eVar 3)) (asgN 4) (bNot (bOf (eCall m_is_sight [] (aCons (eVar 4) (aCons (eVar 1) (aNil)))))) (eVar 4) [4])) (eL (lDisp (aNil))))))
  (sNever)
  (sNil))
  (sSeq (sFld "Sights" 0 "lot" (eL (eBi gList (aCons (ePeek 1) (aNil)))))
  (sSeq (sFld "Sights" 0 "limit" (eVar 2))
  (sFld "Sights" 0 "seen" (eL (lComp (iSeq (eVar 3)) (asgT [5, 6, 7]) (bYes) (eTup (aCons (eD (eBi gDictD (aCons (ePeek 5) (aNil)))) (aCons (eVar 6) (aCons (eVar 7) (aNil))))) [5, 6, 7])))))))
def m_Sights___init__ : FI := initM "Sights" 3 8 b_Sights___init__
theorem sc_Sights___init__ : FnScope ["self", "names", "most", "rows", "item", "hours", "low", "high"] ["self", "names", "most", "rows"] (defScope s_Sights___init__) := ⟨rfl, rfl, rfl, by decide +kernel, rfl, by decide +kernel, by decide +kernel⟩
theorem ok_Sights___init__ (T : Txt0 K mg C_Sights) : OkC P w K mg base 3 "Sights" C_Sights 3 ["self", "names", "most", "rows"] m_Sights___init__ := by
  refine okC_mk (nm := ["self", "names", "most", "rows", "item", "hours", "low", "high"]) T.F_Sights___init__ sc_Sights___init__ rfl rfl (fun _ _ _ _ _ _ us hl => match us, hl with | [_, _, _, _], _ => rfl) (fun f cdv A outer s H E hr => ?_)
  have hr2 : Room 2 _ := hr.mono (by decide)
  exact s_cons (s_if (d_not (d_test (d_peek (c_call (ok_is_lot T) hr2 (a_cons (d_var 1) (a_nil))))))
      (s_one (s_never))
      (s_nil))
      (s_cons (s_if (w_pt (w_and (d_testC (d_peek (d_notN (d_look 2) (d_peek (d_non))))) (w_and1 (d_not (d_test (d_peek (c_call (ok_is_count T) hr2 (a_cons (d_var 2) (a_nil)))))))))
      (s_one (s_never))
      (s_nil))
      (s_cons (s_if (w_pt (w_or (d_not (d_test (d_peek (d_isi T.isi (T.n_isinstance) (p_cons (d_look 3) (p_cons (d_peek (d_ty (by rfl) (T.n_list) (by rfl))) (p_nil))))))) (w_or1 (d_testC (d_peek (d_ne hr.units (d_peek (d_give (d_lc rfl sc_Sights___init__.nd (i_seq (d_var 3)) (blkOk_by (own := [("item", 4)]) (by first | (show blkC ["self", "names", "most", "rows", "item", "hours", "low", "high"] (defScope s_Sights___init__) _ _ = true; decide +kernel) | kernel_rfl | rfl)) (fun _ _ _ _ _ => t_name (i := 4) sc_Sights___init__.nd) (gok_name 4) (by decide) (fun _ _ _ _ _ => pts_oneT (d_not (d_test (d_peek (c_call (ok_is_sight T) hr2 (a_cons (d_var 4) (a_cons (d_var 1) (a_nil)))))))) (fun _ _ _ _ _ => d_var 4)))) (d_peek (d_give (d_lst (a_nil))))))))))
      (s_one (s_never))
      (s_nil))
      (s_cons (s_fld (i := 0) T.c_Sights T.k_Sights T.a_Sights_lot (d_give (d_list (T.n_list) (p_cons (d_look 1) (p_nil)))))
      (s_cons (s_fld (i := 0) T.c_Sights T.k_Sights T.a_Sights_limit (d_var 2))
      (s_one (s_fld (i := 0) T.c_Sights T.k_Sights T.a_Sights_seen (d_give (d_lc rfl sc_Sights___init__.nd (i_seq (d_var 3)) (blkOk_by (own := [("hours", 5), ("low", 6), ("high", 7)]) (by first | (show blkC ["self", "names", "most", "rows", "item", "hours", "low", "high"] (defScope s_Sights___init__) _ _ = true; decide +kernel) | kernel_rfl | rfl)) (fun _ _ _ _ _ => t_tup rfl (g_cons (i := 5) sc_Sights___init__.nd (g_cons (i := 6) sc_Sights___init__.nd (g_cons (i := 7) sc_Sights___init__.nd (g_nil)))) (n := 3)) (gok_tup [5, 6, 7] 3 rfl) (by decide) (fun _ _ _ _ _ => pts_nilT) (fun _ _ _ _ _ => d_tup (a_cons (d_giveD (d_dictD T.n_dict (p_cons (d_look 5) (p_nil)))) (a_cons (d_var 6) (a_cons (d_var 7) (a_nil)))))))))))))
/-! ### _law_within -/
def b__law_within : SS := sRet (eOp oEq (eL (lComp (iKy 0) (asgN 2) (bOr (bOf (eOp (oInK true) (ePeek 2) (ePeek 1))) (bOf (eOp oGt (eOp oDx (ePeek 0) (ePeek 2)) (eOp oDx (ePeek 1) (ePeek 2))))) (eVar 2) [2])) (eL (lDisp (aNil))))
def m__law_within : FM := fnM 2 3 b__law_within
theorem sc__law_within : FnScope ["_law_one", "_law_other", "_law_key"] ["_law_one", "_law_other"] (defScope s__law_within) := ⟨rfl, rfl, rfl, by decide +kernel, rfl, by decide +kernel, by decide +kernel⟩
theorem ok__law_within (T : Txt0 K mg C_Sights) : OkF P w K mg base 1 "_law_within" ["_law_one", "_law_other"] m__law_within := by
  refine okF_mk (nm := ["_law_one", "_law_other", "_law_key"]) T.F__law_within sc__law_within (fun _ _ _ _ _ _ us hl => match us, hl with | [_, _], _ => rfl) (fun f cdv A outer s H E hr => ?_)
  exact s_one (s_ret (d_eq hr.units (d_peek (d_give (d_lcK 0 rfl sc__law_within.nd (blkOk_by (own := [("_law_key", 2)]) (by first | (show blkC ["_law_one", "_law_other", "_law_key"] (defScope s__law_within) _ _ = true; decide +kernel) | kernel_rfl | rfl)) (fun _ _ _ _ _ => t_name (i := 2) sc__law_within.nd) (gok_name 2) (by decide) (fun _ _ _ _ _ => pts_oneT (w_pt (w_or (d_testC (d_peek (d_ninK (u1 hr) (d_look 2) (d_look 1)))) (w_or1 (d_testC (d_peek (d_gt (d_peek (d_dx (u1 hr) (d_look 0) (d_look 2))) (d_peek (d_dx (u1 hr) (d_look 1) (d_look 2)))))))))) (fun _ _ _ _ _ => d_var 2)))) (d_peek (d_give (d_lst (a_nil))))))
/-! ### _law_every -/
def b__law_every : SS := sSeq (sPar 2 3 (.val (eL (lComp (iRg1 (aCons (eOp oAdd (ePeek 1) (eC (.int 1))) (aNil))) (asgN 4) (bYes) (eD (eBi gDictP (aCons (eL (lDisp (aCons (eTup (aCons (eOp oIx (ePeek 0) (eC (.int 0))) (aCons (eVar 4) (aNil)))) (aNil)))) (aNil)))) [4]))) (.own (lDisp (aCons (eL (lDisp (aNil))) (aNil)))))
  (sSeq (sSet 2 (eOp oAdd (ePeek 2) (eL (lComp (iRg1 (aCons (eOp oAdd (ePeek 1) (eC (.int 1))) (aNil))) (asgN 4) (bYes) (eD (eBi gDictP (aCons (eL (lDisp (aCons (eTup (aCons (eOp oIx (ePeek 0) (eC (.int 1))) (aCons (eVar 4) (aNil)))) (aNil)))) (aNil)))) [4]))))
  (sSeq (sFor (iRg1 (aCons (eOp oAdd (ePeek 1) (eC (.int 1))) (aNil))) (asgN 4)
  (sSet 2 (eOp oAdd (ePeek 2) (eL (lComp (iRg1 (aCons (eOp oAdd (ePeek 1) (eC (.int 1))) (aNil))) (asgN 5) (bYes) (eD (eBi gDictP (aCons (eL (lDisp (aCons (eTup (aCons (eOp oIx (ePeek 0) (eC (.int 0))) (aCons (eVar 4) (aNil)))) (aCons (eTup (aCons (eOp oIx (ePeek 0) (eC (.int 1))) (aCons (eVar 5) (aNil)))) (aNil))))) (aNil)))) [5])))))
  (sSeq (sFor (iSeq (eVar 2)) (asgN 6)
  (sFor (iSeq (eL (eBi gList (aCons (ePeek 3) (aNil))))) (asgN 7)
  (sIf (bOf (eOp oEqN (eL (lComp (iSeq (eVar 7)) (asgN 8) (bOr (bOf (eCall m__law_within [] (aCons (eVar 8) (aCons (eVar 6) (aNil))))) (bOf (eCall m__law_within [] (aCons (eVar 6) (aCons (eVar 8) (aNil)))))) (eVar 8) [8])) (eL (lDisp (aNil)))))
  (sApp 3 (eOp oAdd (ePeek 7) (eL (lDisp (aCons (eVar 6) (aNil))))))
  (sNil))))
  (sRet (eL (eSl slL (ePeek 3) (oSome (eC (.int 1))) (oNone)))))))
def m__law_every : FM := fnM 2 9 b__law_every
theorem sc__law_every : FnScope ["_law_names_here", "_law_most", "_law_lots", "_law_found", "_law_wait", "_law_other", "_law_row", "_law_some", "_law_one"] ["_law_names_here", "_law_most"] (defScope s__law_every) := ⟨rfl, rfl, rfl, by decide +kernel, rfl, by decide +kernel, by decide +kernel⟩
theorem ok__law_every (T : Txt0 K mg C_Sights) : OkF P w K mg base 2 "_law_every" ["_law_names_here", "_law_most"] m__law_every := by
  refine okF_mk (nm := ["_law_names_here", "_law_most", "_law_lots", "_law_found", "_law_wait", "_law_other", "_law_row", "_law_some", "_law_one"]) T.F__law_every sc__law_every (fun _ _ _ _ _ _ us hl => match us, hl with | [_, _], _ => rfl) (fun f cdv A outer s H E hr => ?_)
  have hr1 : Room 1 _ := hr.mono (by decide)
  exact s_cons (s_par (i := 2) (j := 3) (ka := .val (eL (lComp (iRg1 (aCons (eOp oAdd (ePeek 1) (eC (.int 1))) (aNil))) (asgN 4) (bYes) (eD (eBi gDictP (aCons (eL (lDisp (aCons (eTup (aCons (eOp oIx (ePeek 0) (eC (.int 0))) (aCons (eVar 4) (aNil)))) (aNil)))) (aNil)))) [4]))) (kb := .own (lDisp (aCons (eL (lDisp (aNil))) (aNil)))) sc__law_every.nd (k_val (d_give (d_lc rfl sc__law_every.nd (i_rg1 (T.n_range) (p_cons (d_peek (d_add (d_look 1) (d_peek (d_int)))) (p_nil))) (blkOk_by (own := [("_law_wait", 4)]) (by first | (show blkC ["_law_names_here", "_law_most", "_law_lots", "_law_found", "_law_wait", "_law_other", "_law_row", "_law_some", "_law_one"] (defScope s__law_every) _ _ = true; decide +kernel) | kernel_rfl | rfl)) (fun _ _ _ _ _ => t_name (i := 4) sc__law_every.nd) (gok_name 4) (by decide) (fun _ _ _ _ _ => pts_nilT) (fun _ _ _ _ _ => d_giveD (d_dictP rfl T.n_dict (p_cons (d_peek (d_give (d_lst (a_cons (d_tup (a_cons (d_ix (d_look 0) (d_peek (d_int))) (a_cons (d_var 4) (a_nil)))) (a_nil))))) (p_nil))))))) (k_own (d_lst (a_cons (d_give (d_lst (a_nil))) (a_nil)))))
      (s_cons (s_set (i := 2) sc__law_every.nd (d_add (d_look 2) (d_peek (d_give (d_lc rfl sc__law_every.nd (i_rg1 (T.n_range) (p_cons (d_peek (d_add (d_look 1) (d_peek (d_int)))) (p_nil))) (blkOk_by (own := [("_law_wait", 4)]) (by first | (show blkC ["_law_names_here", "_law_most", "_law_lots", "_law_found", "_law_wait", "_law_other", "_law_row", "_law_some", "_law_one"] (defScope s__law_every) _ _ = true; decide +kernel) | kernel_rfl | rfl)) (fun _ _ _ _ _ => t_name (i := 4) sc__law_every.nd) (gok_name 4) (by decide) (fun _ _ _ _ _ => pts_nilT) (fun _ _ _ _ _ => d_giveD (d_dictP rfl T.n_dict (p_cons (d_peek (d_give (d_lst (a_cons (d_tup (a_cons (d_ix (d_look 0) (d_peek (d_int))) (a_cons (d_var 4) (a_nil)))) (a_nil))))) (p_nil)))))))))
      (s_cons (s_for PassesOwn.never rfl (i_rg1 (T.n_range) (p_cons (d_peek (d_add (d_look 1) (d_peek (d_int)))) (p_nil))) (t_name (i := 4) sc__law_every.nd) (gok_name 4)
      (s_one (s_set (i := 2) sc__law_every.nd (d_add (d_look 2) (d_peek (d_give (d_lc rfl sc__law_every.nd (i_rg1 (T.n_range) (p_cons (d_peek (d_add (d_look 1) (d_peek (d_int)))) (p_nil))) (blkOk_by (own := [("_law_other", 5)]) (by first | (show blkC ["_law_names_here", "_law_most", "_law_lots", "_law_found", "_law_wait", "_law_other", "_law_row", "_law_some", "_law_one"] (defScope s__law_every) _ _ = true; decide +kernel) | kernel_rfl | rfl)) (fun _ _ _ _ _ => t_name (i := 5) sc__law_every.nd) (gok_name 5) (by decide) (fun _ _ _ _ _ => pts_nilT) (fun _ _ _ _ _ => d_giveD (d_dictP rfl T.n_dict (p_cons (d_peek (d_give (d_lst (a_cons (d_tup (a_cons (d_ix (d_look 0) (d_peek (d_int))) (a_cons (d_var 4) (a_nil)))) (a_cons (d_tup (a_cons (d_ix (d_look 0) (d_peek (d_int))) (a_cons (d_var 5) (a_nil)))) (a_nil)))))) (p_nil)))))))))))
      (s_cons (s_for PassesOwn.never rfl (i_seq (d_var 2)) (t_name (i := 6) sc__law_every.nd) (gok_name 6)
      (s_one (s_for PassesOwn.never rfl (i_seq (d_give (d_list (T.n_list) (p_cons (d_look 3) (p_nil))))) (t_name (i := 7) sc__law_every.nd) (gok_name 7)
      (s_one (s_if (d_testC (d_peek (d_eqN (u0 hr) (d_peek (d_give (d_lc rfl sc__law_every.nd (i_seq (d_var 7)) (blkOk_by (own := [("_law_one", 8)]) (by first | (show blkC ["_law_names_here", "_law_most", "_law_lots", "_law_found", "_law_wait", "_law_other", "_law_row", "_law_some", "_law_one"] (defScope s__law_every) _ _ = true; decide +kernel) | kernel_rfl | rfl)) (fun _ _ _ _ _ => t_name (i := 8) sc__law_every.nd) (gok_name 8) (by decide) (fun _ _ _ _ _ => pts_oneT (w_pt (w_or (d_test (d_peek (c_call (ok__law_within T) hr1 (a_cons (d_var 8) (a_cons (d_var 6) (a_nil)))))) (w_or1 (d_test (d_peek (c_call (ok__law_within T) hr1 (a_cons (d_var 6) (a_cons (d_var 8) (a_nil)))))))))) (fun _ _ _ _ _ => d_var 8)))) (d_peek (d_give (d_lst (a_nil)))))))
      (s_one (s_app (i := 3) (d_add (d_look 7) (d_peek (d_give (d_lst (a_cons (d_var 6) (a_nil))))))))
      (s_nil))))))
      (s_one (s_ret (d_give (d_slL (d_look 3) (o_some (d_peek (d_int))) (o_none))))))))
/-! ### _law_suits -/
def b__law_suits : SS := sSeq (sFor (iSeq (eVar 1)) (asgT [2, 3, 4])
  (sSeq (sSet 5 (eCall m__law_first_told [] (aCons (eVar 0) (aCons (eVar 2) (aNil)))))
  (sIf (bOr (bAnd (bOf (eOp oNotN (ePeek 3) (eC .non))) (bOf (eOp oLt (ePeek 5) (ePeek 3)))) (bAnd (bOf (eOp oNotN (ePeek 4) (eC .non))) (bOf (eOp oGt (ePeek 5) (ePeek 4)))))
  (sRet (eC (.bl false)))
  (sNil))))
  (sRet (eC (.bl true)))
def m__law_suits : FM := fnM 2 6 b__law_suits
theorem sc__law_suits : FnScope ["_law_lots", "_law_seen_here", "_law_hours", "_law_low", "_law_high", "_law_hour"] ["_law_lots", "_law_seen_here"] (defScope s__law_suits) := ⟨rfl, rfl, rfl, by decide +kernel, rfl, by decide +kernel, by decide +kernel⟩
theorem ok__law_suits (T : Txt0 K mg C_Sights) : OkF P w K mg base 3 "_law_suits" ["_law_lots", "_law_seen_here"] m__law_suits := by
  refine okF_mk (nm := ["_law_lots", "_law_seen_here", "_law_hours", "_law_low", "_law_high", "_law_hour"]) T.F__law_suits sc__law_suits (fun _ _ _ _ _ _ us hl => match us, hl with | [_, _], _ => rfl) (fun f cdv A outer s H E hr => ?_)
  have hr2 : Room 2 _ := hr.mono (by decide)
  exact s_cons (s_for PassesOwn.never rfl (i_seq (d_var 1)) (t_tup rfl (g_cons (i := 2) sc__law_suits.nd (g_cons (i := 3) sc__law_suits.nd (g_cons (i := 4) sc__law_suits.nd (g_nil)))) (n := 3)) (gok_tup [2, 3, 4] 3 rfl)
      (s_cons (s_set (i := 5) sc__law_suits.nd (c_call (ok__law_first_told T) hr2 (a_cons (d_var 0) (a_cons (d_var 2) (a_nil)))))
      (s_one (s_if (w_pt (w_or (w_pt (w_and (d_testC (d_peek (d_notN (d_look 3) (d_peek (d_non))))) (w_and1 (d_testC (d_peek (d_lt (d_look 5) (d_look 3))))))) (w_or1 (w_pt (w_and (d_testC (d_peek (d_notN (d_look 4) (d_peek (d_non))))) (w_and1 (d_testC (d_peek (d_gt (d_look 5) (d_look 4))))))))))
      (s_one (s_ret (d_bl)))
      (s_nil)))))
      (s_one (s_ret (d_bl)))
/-! ### _law_bounds -/
def b__law_bounds : SS := sSeq (sUnp [3, 4, 5] (eVar 1))
  (sSeq (sSet 6 (eIf (bOf (eOp oIsN (ePeek 4) (eC .non))) (eC .non) (eOp oSub (ePeek 4) (eOp oDx (ePeek 3) (ePeek 2)))))
  (sSeq (sSet 7 (eIf (bOf (eOp oIsN (ePeek 5) (eC .non))) (eC .non) (eOp oSub (ePeek 5) (eOp oDx (ePeek 3) (ePeek 2)))))
  (sSeq (sIf (bOf (eOp oIsN (ePeek 0) (eC .non)))
  (sRet (eL (lDisp (aCons (eVar 6) (aCons (eVar 7) (aNil))))))
  (sNil))
  (sRet (eL (lDisp (aCons (eIf (bOf (eOp oNotN (ePeek 6) (eC .non))) (eBi gMax (aCons (eC (.int 0)) (aCons (ePeek 6) (aNil)))) (eC (.int 0))) (aCons (eIf (bOf (eOp oNotN (ePeek 7) (eC .non))) (eBi gMin (aCons (ePeek 0) (aCons (ePeek 7) (aNil)))) (eVar 0)) (aNil)))))))))
def m__law_bounds : FM := fnM 3 8 b__law_bounds
theorem sc__law_bounds : FnScope ["_law_most", "_law_sight_here", "_law_name", "_law_hours", "_law_low", "_law_high", "_law_bottom", "_law_top"] ["_law_most", "_law_sight_here", "_law_name"] (defScope s__law_bounds) := ⟨rfl, rfl, rfl, by decide +kernel, rfl, by decide +kernel, by decide +kernel⟩
theorem ok__law_bounds (T : Txt0 K mg C_Sights) : OkF P w K mg base 1 "_law_bounds" ["_law_most", "_law_sight_here", "_law_name"] m__law_bounds := by
  refine okF_mk (nm := ["_law_most", "_law_sight_here", "_law_name", "_law_hours", "_law_low", "_law_high", "_law_bottom", "_law_top"]) T.F__law_bounds sc__law_bounds (fun _ _ _ _ _ _ us hl => match us, hl with | [_, _, _], _ => rfl) (fun f cdv A outer s H E hr => ?_)
  exact s_cons (s_unp (is := [3, 4, 5]) rfl (d_var 1) (g_cons (i := 3) sc__law_bounds.nd (g_cons (i := 4) sc__law_bounds.nd (g_cons (i := 5) sc__law_bounds.nd (g_nil)))))
      (s_cons (s_set (i := 6) sc__law_bounds.nd (d_if (d_testC (d_peek (d_isN (d_look 4) (d_peek (d_non))))) (d_non) (d_sub (d_look 4) (d_peek (d_dx (u1 hr) (d_look 3) (d_look 2))))))
      (s_cons (s_set (i := 7) sc__law_bounds.nd (d_if (d_testC (d_peek (d_isN (d_look 5) (d_peek (d_non))))) (d_non) (d_sub (d_look 5) (d_peek (d_dx (u1 hr) (d_look 3) (d_look 2))))))
      (s_cons (s_if (d_testC (d_peek (d_isN (d_look 0) (d_peek (d_non)))))
      (s_one (s_ret (d_give (d_lst (a_cons (d_var 6) (a_cons (d_var 7) (a_nil)))))))
      (s_nil))
      (s_one (s_ret (d_give (d_lst (a_cons (d_if (d_testC (d_peek (d_notN (d_look 6) (d_peek (d_non))))) (d_max rfl (T.n_max) (p_cons (d_peek (d_int)) (p_cons (d_look 6) (p_nil)))) (d_int)) (a_cons (d_if (d_testC (d_peek (d_notN (d_look 7) (d_peek (d_non))))) (d_min rfl (T.n_min) (p_cons (d_look 0) (p_cons (d_look 7) (p_nil)))) (d_var 0)) (a_nil))))))))))
/-! ### _law_standing -/
def b__law_standing : SS := sSeq (sOwn 4 (lDisp (aNil)))
  (sSeq (sFor (iSeq (eVar 0)) (asgN 5)
  (sSeq (sPar 6 7 (.val (eOp oIx (eCall m__law_bounds [] (aCons (eVar 1) (aCons (eVar 3) (aCons (eVar 5) (aNil))))) (eC (.int 0)))) (.val (eOp oIx (eCall m__law_bounds [] (aCons (eVar 1) (aCons (eVar 2) (aCons (eVar 5) (aNil))))) (eC (.int 1)))))
  (sIf (bOr (bOf (eOp oIsN (ePeek 6) (eC .non))) (bOr (bOf (eOp oIsN (ePeek 7) (eC .non))) (bOf (eOp oLe (ePeek 6) (ePeek 7)))))
  (sApp 4 (eVar 5))
  (sNil))))
  (sFrz 4 (sRet (eVar 4))))
def m__law_standing : FM := fnM 4 8 b__law_standing
theorem sc__law_standing : FnScope ["_law_names_here", "_law_most", "_law_near", "_law_far", "_law_found", "_law_name", "_law_bottom", "_law_top"] ["_law_names_here", "_law_most", "_law_near", "_law_far"] (defScope s__law_standing) := ⟨rfl, rfl, rfl, by decide +kernel, rfl, by decide +kernel, by decide +kernel⟩
theorem ok__law_standing (T : Txt0 K mg C_Sights) : OkF P w K mg base 2 "_law_standing" ["_law_names_here", "_law_most", "_law_near", "_law_far"] m__law_standing := by
  refine okF_mk (nm := ["_law_names_here", "_law_most", "_law_near", "_law_far", "_law_found", "_law_name", "_law_bottom", "_law_top"]) T.F__law_standing sc__law_standing (fun _ _ _ _ _ _ us hl => match us, hl with | [_, _, _, _], _ => rfl) (fun f cdv A outer s H E hr => ?_)
  have hr1 : Room 1 _ := hr.mono (by decide)
  exact s_cons (s_own (i := 4) sc__law_standing.nd (d_lst (a_nil)))
      (s_cons (s_for PassesOwn.never rfl (i_seq (d_var 0)) (t_name (i := 5) sc__law_standing.nd) (gok_name 5)
      (s_cons (s_par (i := 6) (j := 7) (ka := .val (eOp oIx (eCall m__law_bounds [] (aCons (eVar 1) (aCons (eVar 3) (aCons (eVar 5) (aNil))))) (eC (.int 0)))) (kb := .val (eOp oIx (eCall m__law_bounds [] (aCons (eVar 1) (aCons (eVar 2) (aCons (eVar 5) (aNil))))) (eC (.int 1)))) sc__law_standing.nd (k_val (d_ix (d_peek (c_call (ok__law_bounds T) hr1 (a_cons (d_var 1) (a_cons (d_var 3) (a_cons (d_var 5) (a_nil)))))) (d_peek (d_int)))) (k_val (d_ix (d_peek (c_call (ok__law_bounds T) hr1 (a_cons (d_var 1) (a_cons (d_var 2) (a_cons (d_var 5) (a_nil)))))) (d_peek (d_int)))))
      (s_one (s_if (w_pt (w_or (d_testC (d_peek (d_isN (d_look 6) (d_peek (d_non))))) (w_or (d_testC (d_peek (d_isN (d_look 7) (d_peek (d_non))))) (w_or1 (d_testC (d_peek (d_le (d_look 6) (d_look 7))))))))
      (s_one (s_app (i := 4) (d_var 5)))
      (s_nil)))))
      (s_one (s_frz 4 (s_ret (d_var 4)))))
/-! ### _law_pairs -/
def b__law_pairs : SS := sSeq (sOwn 3 (lDisp (aNil)))
  (sSeq (sFor (iRg1 (aCons (eBi gLen (aCons (ePeek 2) (aNil))) (aNil))) (asgN 4)
  (sFor (iRg1 (aCons (eBi gLen (aCons (ePeek 2) (aNil))) (aNil))) (asgN 5)
  (sIf (bOf (eOp oEq (eCall m__law_standing [] (aCons (eVar 0) (aCons (eVar 1) (aCons (eOp oIx (ePeek 2) (ePeek 4)) (aCons (eOp oIx (ePeek 2) (ePeek 5)) (aNil)))))) (eL (lDisp (aNil)))))
  (sApp 3 (eTup (aCons (eVar 4) (aCons (eVar 5) (aNil)))))
  (sNil))))
  (sFrz 3 (sRet (eVar 3))))
def m__law_pairs : FM := fnM 3 6 b__law_pairs
theorem sc__law_pairs : FnScope ["_law_names_here", "_law_most", "_law_seen_here", "_law_found", "_law_one", "_law_other"] ["_law_names_here", "_law_most", "_law_seen_here"] (defScope s__law_pairs) := ⟨rfl, rfl, rfl, by decide +kernel, rfl, by decide +kernel, by decide +kernel⟩
theorem ok__law_pairs (T : Txt0 K mg C_Sights) : OkF P w K mg base 3 "_law_pairs" ["_law_names_here", "_law_most", "_law_seen_here"] m__law_pairs := by
  refine okF_mk (nm := ["_law_names_here", "_law_most", "_law_seen_here", "_law_found", "_law_one", "_law_other"]) T.F__law_pairs sc__law_pairs (fun _ _ _ _ _ _ us hl => match us, hl with | [_, _, _], _ => rfl) (fun f cdv A outer s H E hr => ?_)
  have hr2 : Room 2 _ := hr.mono (by decide)
  exact s_cons (s_own (i := 3) sc__law_pairs.nd (d_lst (a_nil)))
      (s_cons (s_for PassesOwn.never rfl (i_rg1 (T.n_range) (p_cons (d_peek (d_len (T.n_len) (p_cons (d_look 2) (p_nil)))) (p_nil))) (t_name (i := 4) sc__law_pairs.nd) (gok_name 4)
      (s_one (s_for PassesOwn.never rfl (i_rg1 (T.n_range) (p_cons (d_peek (d_len (T.n_len) (p_cons (d_look 2) (p_nil)))) (p_nil))) (t_name (i := 5) sc__law_pairs.nd) (gok_name 5)
      (s_one (s_if (d_testC (d_peek (d_eq hr.units (d_peek (c_call (ok__law_standing T) hr2 (a_cons (d_var 0) (a_cons (d_var 1) (a_cons (d_ix (d_look 2) (d_look 4)) (a_cons (d_ix (d_look 2) (d_look 5)) (a_nil))))))) (d_peek (d_give (d_lst (a_nil)))))))
      (s_one (s_app (i := 3) (d_tup (a_cons (d_var 4) (a_cons (d_var 5) (a_nil))))))
      (s_nil))))))
      (s_one (s_frz 3 (s_ret (d_var 3)))))
/-! ### Sights.with_row -/
def b_Sights_with_row : SS := sSeq (sIf (bNot (bOf (eCall m_is_sight [] (aCons (eVar 1) (aCons (eFld "Sights" "lot" (ePeek 0)) (aNil))))))
  (sNever)
  (sNil))
  (sRet (eMake "Sights" m_Sights___init__ [] (aCons (eFld "Sights" "lot" (ePeek 0)) (aCons (eFld "Sights" "limit" (ePeek 0)) (aCons (eL (lDisp (aStar (eFld "Sights" "seen" (ePeek 0)) (aCons (eVar 1) (aNil))))) (aNil))))))
def m_Sights_with_row : FM := fnM 2 2 b_Sights_with_row
theorem sc_Sights_with_row : FnScope ["self", "row"] ["self", "row"] (defScope s_Sights_with_row) := ⟨rfl, rfl, rfl, by decide +kernel, rfl, by decide +kernel, by decide +kernel⟩
theorem ok_Sights_with_row (T : Txt0 K mg C_Sights) : OkM P w K mg base 5 C_Sights "with_row" ["self", "row"] m_Sights_with_row := by
  refine okM_mk (nm := ["self", "row"]) T.F_Sights_with_row sc_Sights_with_row (fun _ _ _ _ _ _ us hl => match us, hl with | [_, _], _ => rfl) (fun f cdv A outer s H E hr => ?_)
  have hr2 : Room 2 _ := hr.mono (by decide)
  have hr4 : Room 4 _ := hr.mono (by decide)
  exact s_cons (s_if (d_not (d_test (d_peek (c_call (ok_is_sight T) hr2 (a_cons (d_var 1) (a_cons (d_fld (d_look 0) T.c_Sights T.k_Sights T.a_Sights_lot) (a_nil)))))))
      (s_one (s_never))
      (s_nil))
      (s_one (s_ret (c_make (ok_Sights___init__ T) T.c_Sights hr4 (a_cons (d_fld (d_look 0) T.c_Sights T.k_Sights T.a_Sights_lot) (a_cons (d_fld (d_look 0) T.c_Sights T.k_Sights T.a_Sights_limit) (a_cons (d_give (d_lst (a_star (d_fld (d_look 0) T.c_Sights T.k_Sights T.a_Sights_seen) (a_cons (d_var 1) (a_nil))))) (a_nil)))))))
/-! ### check_sights -/
def b_check_sights : SS := sIf (bNot (bOf (eBi (gIsi CS) (aCons (ePeek 0) (aCons (eC (.cls "Sights")) (aNil))))))
  (sNever)
  (sNil)
def m_check_sights : FM := fnM 1 1 b_check_sights
theorem sc_check_sights : FnScope ["value"] ["value"] (defScope s_check_sights) := ⟨rfl, rfl, rfl, by decide +kernel, rfl, by decide +kernel, by decide +kernel⟩
theorem ok_check_sights (T : Txt0 K mg C_Sights) : OkF P w K mg base 1 "check_sights" ["value"] m_check_sights := by
  refine okF_mk (nm := ["value"]) T.F_check_sights sc_check_sights (fun _ _ _ _ _ _ us hl => match us, hl with | [_], _ => rfl) (fun f cdv A outer s H E hr => ?_)
  exact s_one (s_if (d_not (d_test (d_peek (d_isi T.isi (T.n_isinstance) (p_cons (d_look 0) (p_cons (d_peek (d_cls (by rfl) T.c_Sights)) (p_nil)))))))
      (s_one (s_never))
      (s_nil))
/-! ### Sights.greatest_wait -/
def b_Sights_greatest_wait : SS := sSeq (sUnp [3, 4, 5] (eOp oIx (eFld "Sights" "seen" (ePeek 0)) (ePeek 1)))
  (sSeq (sIf (bOf (eOp oIsN (ePeek 5) (eC .non)))
  (sRet (eFld "Sights" "limit" (ePeek 0)))
  (sNil))
  (sRet (eIf (bOf (eOp oIsN (eFld "Sights" "limit" (ePeek 0)) (eC .non))) (eOp oSub (ePeek 5) (eOp oDx (ePeek 3) (ePeek 2))) (eBi gMin (aCons (eFld "Sights" "limit" (ePeek 0)) (aCons (eOp oSub (ePeek 5) (eOp oDx (ePeek 3) (ePeek 2))) (aNil)))))))
def m_Sights_greatest_wait : FM := fnM 3 6 b_Sights_greatest_wait
theorem sc_Sights_greatest_wait : FnScope ["self", "at", "name", "hours", "low", "high"] ["self", "at", "name"] (defScope s_Sights_greatest_wait) := ⟨rfl, rfl, rfl, by decide +kernel, rfl, by decide +kernel, by decide +kernel⟩
theorem ok_Sights_greatest_wait (T : Txt0 K mg C_Sights) : OkM P w K mg base 1 C_Sights "greatest_wait" ["self", "at", "name"] m_Sights_greatest_wait := by
  refine okM_mk (nm := ["self", "at", "name", "hours", "low", "high"]) T.F_Sights_greatest_wait sc_Sights_greatest_wait (fun _ _ _ _ _ _ us hl => match us, hl with | [_, _, _], _ => rfl) (fun f cdv A outer s H E hr => ?_)
  exact s_cons (s_unp (is := [3, 4, 5]) rfl (d_ix (d_peek (d_fld (d_look 0) T.c_Sights T.k_Sights T.a_Sights_seen)) (d_look 1)) (g_cons (i := 3) sc_Sights_greatest_wait.nd (g_cons (i := 4) sc_Sights_greatest_wait.nd (g_cons (i := 5) sc_Sights_greatest_wait.nd (g_nil)))))
      (s_cons (s_if (d_testC (d_peek (d_isN (d_look 5) (d_peek (d_non)))))
      (s_one (s_ret (d_fld (d_look 0) T.c_Sights T.k_Sights T.a_Sights_limit)))
      (s_nil))
      (s_one (s_ret (d_if (d_testC (d_peek (d_isN (d_peek (d_fld (d_look 0) T.c_Sights T.k_Sights T.a_Sights_limit)) (d_peek (d_non))))) (d_sub (d_look 5) (d_peek (d_dx (u1 hr) (d_look 3) (d_look 2)))) (d_min rfl (T.n_min) (p_cons (d_peek (d_fld (d_look 0) T.c_Sights T.k_Sights T.a_Sights_limit)) (p_cons (d_peek (d_sub (d_look 5) (d_peek (d_dx (u1 hr) (d_look 3) (d_look 2))))) (p_nil))))))))
/-! ### Sights.least_wait -/
def b_Sights_least_wait : SS := sSeq (sUnp [3, 4, 5] (eOp oIx (eFld "Sights" "seen" (ePeek 0)) (ePeek 1)))
  (sSeq (sIf (bOf (eOp oIsN (eFld "Sights" "limit" (ePeek 0)) (eC .non)))
  (sRet (eIf (bOf (eOp oIsN (ePeek 4) (eC .non))) (eC .non) (eOp oSub (ePeek 4) (eOp oDx (ePeek 3) (ePeek 2)))))
  (sNil))
  (sRet (eIf (bOf (eOp oIsN (ePeek 4) (eC .non))) (eC (.int 0)) (eBi gMax (aCons (eC (.int 0)) (aCons (eOp oSub (ePeek 4) (eOp oDx (ePeek 3) (ePeek 2))) (aNil)))))))
def m_Sights_least_wait : FM := fnM 3 6 b_Sights_least_wait
theorem sc_Sights_least_wait : FnScope ["self", "at", "name", "hours", "low", "high"] ["self", "at", "name"] (defScope s_Sights_least_wait) := ⟨rfl, rfl, rfl, by decide +kernel, rfl, by decide +kernel, by decide +kernel⟩
theorem ok_Sights_least_wait (T : Txt0 K mg C_Sights) : OkM P w K mg base 1 C_Sights "least_wait" ["self", "at", "name"] m_Sights_least_wait := by
  refine okM_mk (nm := ["self", "at", "name", "hours", "low", "high"]) T.F_Sights_least_wait sc_Sights_least_wait (fun _ _ _ _ _ _ us hl => match us, hl with | [_, _, _], _ => rfl) (fun f cdv A outer s H E hr => ?_)
  exact s_cons (s_unp (is := [3, 4, 5]) rfl (d_ix (d_peek (d_fld (d_look 0) T.c_Sights T.k_Sights T.a_Sights_seen)) (d_look 1)) (g_cons (i := 3) sc_Sights_least_wait.nd (g_cons (i := 4) sc_Sights_least_wait.nd (g_cons (i := 5) sc_Sights_least_wait.nd (g_nil)))))
      (s_cons (s_if (d_testC (d_peek (d_isN (d_peek (d_fld (d_look 0) T.c_Sights T.k_Sights T.a_Sights_limit)) (d_peek (d_non)))))
      (s_one (s_ret (d_if (d_testC (d_peek (d_isN (d_look 4) (d_peek (d_non))))) (d_non) (d_sub (d_look 4) (d_peek (d_dx (u1 hr) (d_look 3) (d_look 2)))))))
      (s_nil))
      (s_one (s_ret (d_if (d_testC (d_peek (d_isN (d_look 4) (d_peek (d_non))))) (d_int) (d_max rfl (T.n_max) (p_cons (d_peek (d_int)) (p_cons (d_peek (d_sub (d_look 4) (d_peek (d_dx (u1 hr) (d_look 3) (d_look 2))))) (p_nil))))))))
/-! ### Sights.standing -/
def b_Sights_standing : SS := sSeq (sOwn 3 (lDisp (aNil)))
  (sSeq (sFor (iSeq (eFld "Sights" "lot" (ePeek 0))) (asgN 4)
  (sSeq (sPar 5 6 (.val (eMeth "Sights" "greatest_wait" m_Sights_greatest_wait [] (eVar 0) (aCons (eVar 1) (aCons (eVar 4) (aNil))))) (.val (eMeth "Sights" "least_wait" m_Sights_least_wait [] (eVar 0) (aCons (eVar 2) (aCons (eVar 4) (aNil))))))
  (sIf (bOr (bOf (eOp oIsN (ePeek 5) (eC .non))) (bOr (bOf (eOp oIsN (ePeek 6) (eC .non))) (bOf (eOp oLe (ePeek 6) (ePeek 5)))))
  (sApp 3 (eVar 4))
  (sNil))))
  (sFrz 3 (sRet (eVar 3))))
def m_Sights_standing : FM := fnM 3 7 b_Sights_standing
theorem sc_Sights_standing : FnScope ["self", "high_at", "low_at", "found", "name", "top", "bottom"] ["self", "high_at", "low_at"] (defScope s_Sights_standing) := ⟨rfl, rfl, rfl, by decide +kernel, rfl, by decide +kernel, by decide +kernel⟩
theorem ok_Sights_standing (T : Txt0 K mg C_Sights) : OkM P w K mg base 2 C_Sights "standing" ["self", "high_at", "low_at"] m_Sights_standing := by
  refine okM_mk (nm := ["self", "high_at", "low_at", "found", "name", "top", "bottom"]) T.F_Sights_standing sc_Sights_standing (fun _ _ _ _ _ _ us hl => match us, hl with | [_, _, _], _ => rfl) (fun f cdv A outer s H E hr => ?_)
  have hr1 : Room 1 _ := hr.mono (by decide)
  exact s_cons (s_own (i := 3) sc_Sights_standing.nd (d_lst (a_nil)))
      (s_cons (s_for PassesOwn.never rfl (i_seq (d_fld (d_look 0) T.c_Sights T.k_Sights T.a_Sights_lot)) (t_name (i := 4) sc_Sights_standing.nd) (gok_name 4)
      (s_cons (s_par (i := 5) (j := 6) (ka := .val (eMeth "Sights" "greatest_wait" m_Sights_greatest_wait [] (eVar 0) (aCons (eVar 1) (aCons (eVar 4) (aNil))))) (kb := .val (eMeth "Sights" "least_wait" m_Sights_least_wait [] (eVar 0) (aCons (eVar 2) (aCons (eVar 4) (aNil))))) sc_Sights_standing.nd (k_val (c_meth (ok_Sights_greatest_wait T) T.c_Sights T.k_Sights hr1 (d_var 0) (a_cons (d_var 1) (a_cons (d_var 4) (a_nil))))) (k_val (c_meth (ok_Sights_least_wait T) T.c_Sights T.k_Sights hr1 (d_var 0) (a_cons (d_var 2) (a_cons (d_var 4) (a_nil))))))
      (s_one (s_if (w_pt (w_or (d_testC (d_peek (d_isN (d_look 5) (d_peek (d_non))))) (w_or (d_testC (d_peek (d_isN (d_look 6) (d_peek (d_non))))) (w_or1 (d_testC (d_peek (d_le (d_look 6) (d_look 5))))))))
      (s_one (s_app (i := 3) (d_var 4)))
      (s_nil)))))
      (s_one (s_frz 3 (s_ret (d_var 3)))))
/-! ### Sights.clashes -/
def b_Sights_clashes : SS := sSeq (sSet 1 (eRgV (aCons (eBi gLen (aCons (eFld "Sights" "seen" (ePeek 0)) (aNil))) (aNil))))
  (sRet (eL (lComp2 (iRgV (eVar 1)) (asgN 2) (bYes) (iRgV (eVar 1)) (asgN 3) (bOf (eOp oEq (eMeth "Sights" "standing" m_Sights_standing [] (eVar 0) (aCons (eVar 2) (aCons (eVar 3) (aNil)))) (eL (lDisp (aNil))))) (eTup (aCons (eVar 2) (aCons (eVar 3) (aNil)))) [2, 3] [3])))
def m_Sights_clashes : FM := fnM 1 4 b_Sights_clashes
theorem sc_Sights_clashes : FnScope ["self", "places", "one", "other"] ["self"] (defScope s_Sights_clashes) := ⟨rfl, rfl, rfl, by decide +kernel, rfl, by decide +kernel, by decide +kernel⟩
theorem ok_Sights_clashes (T : Txt0 K mg C_Sights) : OkM P w K mg base 3 C_Sights "clashes" ["self"] m_Sights_clashes := by
  refine okM_mk (nm := ["self", "places", "one", "other"]) T.F_Sights_clashes sc_Sights_clashes (fun _ _ _ _ _ _ us hl => match us, hl with | [_], _ => rfl) (fun f cdv A outer s H E hr => ?_)
  have hr2 : Room 2 _ := hr.mono (by decide)
  exact s_cons (s_set (i := 1) sc_Sights_clashes.nd (d_rgV (T.n_range) (p_cons (d_peek (d_len (T.n_len) (p_cons (d_peek (d_fld (d_look 0) T.c_Sights T.k_Sights T.a_Sights_seen)) (p_nil)))) (p_nil))))
      (s_one (s_ret (d_give (d_lc2 rfl sc_Sights_clashes.nd (i_rgV (d_var 1)) (blkOk_by (own := [("one", 2), ("other", 3)]) (by first | (show blkC ["self", "places", "one", "other"] (defScope s_Sights_clashes) _ _ = true; decide +kernel) | kernel_rfl | rfl)) (fun _ _ _ _ _ => t_name (i := 2) sc_Sights_clashes.nd) (gok_name 2) (asg_name 2) (by decide) (fun _ _ _ _ _ => pts_nilT) (fun _ _ _ _ _ => i_rgV (d_var 1)) (fun _ _ _ _ _ => t_name (i := 3) sc_Sights_clashes.nd) (gok_name 3) (by decide) (by decide) (fun _ _ _ _ _ => pts_oneT (d_testC (d_peek (d_eq hr.units (d_peek (c_meth (ok_Sights_standing T) T.c_Sights T.k_Sights hr2 (d_var 0) (a_cons (d_var 2) (a_cons (d_var 3) (a_nil))))) (d_peek (d_give (d_lst (a_nil)))))))) (fun _ _ _ _ _ => d_tup (a_cons (d_var 2) (a_cons (d_var 3) (a_nil))))))))
/-! ### fits -/
def b_fits : SS := sSeq (sDrop (eCall m_check_sights [] (aCons (eVar 0) (aNil))))
  (sRet (eOp oEq (eMeth "Sights" "clashes" m_Sights_clashes [] (eVar 0) (aNil)) (eL (lDisp (aNil)))))
def m_fits : FM := fnM 1 1 b_fits
theorem sc_fits : FnScope ["sights"] ["sights"] (defScope s_fits) := ⟨rfl, rfl, rfl, by decide +kernel, rfl, by decide +kernel, by decide +kernel⟩
theorem ok_fits (T : Txt0 K mg C_Sights) : OkF P w K mg base 4 "fits" ["sights"] m_fits := by
  refine okF_mk (nm := ["sights"]) T.F_fits sc_fits (fun _ _ _ _ _ _ us hl => match us, hl with | [_], _ => rfl) (fun f cdv A outer s H E hr => ?_)
  have hr1 : Room 1 _ := hr.mono (by decide)
  have hr3 : Room 3 _ := hr.mono (by decide)
  exact s_cons (s_drop (d_peek (c_call (ok_check_sights T) hr1 (a_cons (d_var 0) (a_nil)))))
      (s_one (s_ret (d_eq hr.units (d_peek (c_meth0 (ok_Sights_clashes T) T.c_Sights T.k_Sights hr3 (d_var 0))) (d_peek (d_give (d_lst (a_nil)))))))
/-! ### Sights.most -/
def b_Sights_most : SS := sRet (eFld "Sights" "limit" (ePeek 0))
def m_Sights_most : FM := fnM 1 1 b_Sights_most
theorem sc_Sights_most : FnScope ["self"] ["self"] (defScope s_Sights_most) := ⟨rfl, rfl, rfl, by decide +kernel, rfl, by decide +kernel, by decide +kernel⟩
theorem ok_Sights_most (T : Txt0 K mg C_Sights) : OkM P w K mg base 1 C_Sights "most" ["self"] m_Sights_most := by
  refine okM_mk (nm := ["self"]) T.F_Sights_most sc_Sights_most (fun _ _ _ _ _ _ us hl => match us, hl with | [_], _ => rfl) (fun f cdv A outer s H E hr => ?_)
  exact s_one (s_ret (d_fld (d_look 0) T.c_Sights T.k_Sights T.a_Sights_limit))
/-! ### Sights.rows -/
def b_Sights_rows : SS := sRet (eL (lComp (iSeq (eFld "Sights" "seen" (ePeek 0))) (asgT [1, 2, 3]) (bYes) (eTup (aCons (eD (eBi gDictD (aCons (ePeek 1) (aNil)))) (aCons (eVar 2) (aCons (eVar 3) (aNil))))) [1, 2, 3]))
def m_Sights_rows : FM := fnM 1 4 b_Sights_rows
theorem sc_Sights_rows : FnScope ["self", "hours", "low", "high"] ["self"] (defScope s_Sights_rows) := ⟨rfl, rfl, rfl, by decide +kernel, rfl, by decide +kernel, by decide +kernel⟩
theorem ok_Sights_rows (T : Txt0 K mg C_Sights) : OkM P w K mg base 1 C_Sights "rows" ["self"] m_Sights_rows := by
  refine okM_mk (nm := ["self", "hours", "low", "high"]) T.F_Sights_rows sc_Sights_rows (fun _ _ _ _ _ _ us hl => match us, hl with | [_], _ => rfl) (fun f cdv A outer s H E hr => ?_)
  exact s_one (s_ret (d_give (d_lc rfl sc_Sights_rows.nd (i_seq (d_fld (d_look 0) T.c_Sights T.k_Sights T.a_Sights_seen)) (blkOk_by (own := [("hours", 1), ("low", 2), ("high", 3)]) (by first | (show blkC ["self", "hours", "low", "high"] (defScope s_Sights_rows) _ _ = true; decide +kernel) | kernel_rfl | rfl)) (fun _ _ _ _ _ => t_tup rfl (g_cons (i := 1) sc_Sights_rows.nd (g_cons (i := 2) sc_Sights_rows.nd (g_cons (i := 3) sc_Sights_rows.nd (g_nil)))) (n := 3)) (gok_tup [1, 2, 3] 3 rfl) (by decide) (fun _ _ _ _ _ => pts_nilT) (fun _ _ _ _ _ => d_tup (a_cons (d_giveD (d_dictD T.n_dict (p_cons (d_look 1) (p_nil)))) (a_cons (d_var 2) (a_cons (d_var 3) (a_nil))))))))
/-! ### Sights.__eq__ -/
def b_Sights___eq__ : SS := sSeq (sIf (bNot (bOf (eBi (gIsi CS) (aCons (ePeek 1) (aCons (eC (.cls "Sights")) (aNil))))))
  (sRet (eC (.bl false)))
  (sNil))
  (sRet (eOp oEqTZ (eTup (aCons (eFld "Sights" "lot" (ePeek 0)) (aCons (eFld "Sights" "limit" (ePeek 0)) (aCons (eFld "Sights" "seen" (ePeek 0)) (aNil))))) (eTup (aCons (eFld "Sights" "lot" (ePeek 1)) (aCons (eFld "Sights" "limit" (ePeek 1)) (aCons (eFld "Sights" "seen" (ePeek 1)) (aNil)))))))
def m_Sights___eq__ : FM := fnM 2 2 b_Sights___eq__
theorem sc_Sights___eq__ : FnScope ["self", "other"] ["self", "other"] (defScope s_Sights___eq__) := ⟨rfl, rfl, rfl, by decide +kernel, rfl, by decide +kernel, by decide +kernel⟩
theorem ok_Sights___eq__ (T : Txt0 K mg C_Sights) : OkM P w K mg base 1 C_Sights "__eq__" ["self", "other"] m_Sights___eq__ := by
  refine okM_mk (nm := ["self", "other"]) T.F_Sights___eq__ sc_Sights___eq__ (fun _ _ _ _ _ _ us hl => match us, hl with | [_, _], _ => rfl) (fun f cdv A outer s H E hr => ?_)
  exact s_cons (s_if (d_not (d_test (d_peek (d_isi T.isi (T.n_isinstance) (p_cons (d_look 1) (p_cons (d_peek (d_cls (by rfl) T.c_Sights)) (p_nil)))))))
      (s_one (s_ret (d_bl)))
      (s_nil))
      (s_one (s_ret (d_eqTZ hr.units (d_peek (d_tup (a_cons (d_fld (d_look 0) T.c_Sights T.k_Sights T.a_Sights_lot) (a_cons (d_fld (d_look 0) T.c_Sights T.k_Sights T.a_Sights_limit) (a_cons (d_fld (d_look 0) T.c_Sights T.k_Sights T.a_Sights_seen) (a_nil)))))) (d_peek (d_tup (a_cons (d_fld (d_look 1) T.c_Sights T.k_Sights T.a_Sights_lot) (a_cons (d_fld (d_look 1) T.c_Sights T.k_Sights T.a_Sights_limit) (a_cons (d_fld (d_look 1) T.c_Sights T.k_Sights T.a_Sights_seen) (a_nil)))))))))
theorem eq_Sights {X : Cx} (T : Txt0 X.K X.mg C_Sights) : EqF X 1 C_Sights CS m_Sights___eq__ := ⟨T.isi, T.nf_Sights, T.ne_Sights, T.ob_Sights, _, rfl, ok_Sights___eq__ T⟩
/-! ### clash -/
def b_clash : SS := sSeq (sDrop (eCall m_check_sights [] (aCons (eVar 0) (aNil))))
  (sSeq (sSet 1 (eMeth "Sights" "clashes" m_Sights_clashes [] (eVar 0) (aNil)))
  (sRet (eIf (bOf (eOp oNe (ePeek 1) (eL (lDisp (aNil))))) (eOp oIx (ePeek 1) (eC (.int 0))) (eC .non))))
def m_clash : FM := fnM 1 2 b_clash
theorem sc_clash : FnScope ["sights", "found"] ["sights"] (defScope s_clash) := ⟨rfl, rfl, rfl, by decide +kernel, rfl, by decide +kernel, by decide +kernel⟩
theorem ok_clash (T : Txt0 K mg C_Sights) : OkF P w K mg base 4 "clash" ["sights"] m_clash := by
  refine okF_mk (nm := ["sights", "found"]) T.F_clash sc_clash (fun _ _ _ _ _ _ us hl => match us, hl with | [_], _ => rfl) (fun f cdv A outer s H E hr => ?_)
  have hr1 : Room 1 _ := hr.mono (by decide)
  have hr3 : Room 3 _ := hr.mono (by decide)
  exact s_cons (s_drop (d_peek (c_call (ok_check_sights T) hr1 (a_cons (d_var 0) (a_nil)))))
      (s_cons (s_set (i := 1) sc_clash.nd (c_meth0 (ok_Sights_clashes T) T.c_Sights T.k_Sights hr3 (d_var 0)))
      (s_one (s_ret (d_if (d_testC (d_peek (d_ne hr.units (d_look 1) (d_peek (d_give (d_lst (a_nil))))))) (d_ix (d_look 1) (d_peek (d_int))) (d_non)))))
/-! ### check_count -/
def b_check_count : SS := sIf (bOr (bNot (bOf (eCall m_is_count [] (aCons (eVar 0) (aNil))))) (bOr (bOf (eOp oLt (ePeek 0) (ePeek 1))) (bAnd (bOf (eOp oNotN (ePeek 2) (eC .non))) (bOf (eOp oGt (ePeek 0) (ePeek 2))))))
  (sNever)
  (sNil)
def m_check_count : FM := fnM 3 3 b_check_count
theorem sc_check_count : FnScope ["value", "least", "most"] ["value", "least", "most"] (defScope s_check_count) := ⟨rfl, rfl, rfl, by decide +kernel, rfl, by decide +kernel, by decide +kernel⟩
theorem ok_check_count_2 (T : Txt0 K mg C_Sights) : OkFd P w K mg base 3 "check_count" ["value", "least", "most"] 3 [] m_check_count := by
  refine okFd_mk (nm := ["value", "least", "most"]) (j := 2) T.F_check_count sc_check_count (by decide) rfl (fun _ _ _ _ _ _ _ us its hl hi => match us, its, hl, hi with | [_, _, _], [_, _], _, _ => ⟨_, rfl, rfl⟩) (fun f cdv A outer s H E hr => ?_)
  have hr2 : Room 2 _ := hr.mono (by decide)
  exact s_one (s_if (w_pt (w_or (d_not (d_test (d_peek (c_call (ok_is_count T) hr2 (a_cons (d_var 0) (a_nil)))))) (w_or (d_testC (d_peek (d_lt (d_look 0) (d_look 1)))) (w_or1 (w_pt (w_and (d_testC (d_peek (d_notN (d_look 2) (d_peek (d_non))))) (w_and1 (d_testC (d_peek (d_gt (d_look 0) (d_look 2)))))))))))
      (s_one (s_never))
      (s_nil))
/-! ### Sights.without -/
def b_Sights_without : SS := sSeq (sDrop (eCall m_check_count [] (aCons (eVar 1) (aCons (eC (.int 0)) (aCons (eOp oSub (eBi gLen (aCons (eFld "Sights" "seen" (ePeek 0)) (aNil))) (eC (.int 1))) (aNil))))))
  (sRet (eMake "Sights" m_Sights___init__ [] (aCons (eFld "Sights" "lot" (ePeek 0)) (aCons (eFld "Sights" "limit" (ePeek 0)) (aCons (eOp oAdd (eL (eSl slL (eFld "Sights" "seen" (ePeek 0)) (oNone) (oSome (ePeek 1)))) (eL (eSl slL (eFld "Sights" "seen" (ePeek 0)) (oSome (eOp oAdd (ePeek 1) (eC (.int 1)))) (oNone)))) (aNil))))))
def m_Sights_without : FM := fnM 2 2 b_Sights_without
theorem sc_Sights_without : FnScope ["self", "at"] ["self", "at"] (defScope s_Sights_without) := ⟨rfl, rfl, rfl, by decide +kernel, rfl, by decide +kernel, by decide +kernel⟩
theorem ok_Sights_without (T : Txt0 K mg C_Sights) : OkM P w K mg base 5 C_Sights "without" ["self", "at"] m_Sights_without := by
  refine okM_mk (nm := ["self", "at"]) T.F_Sights_without sc_Sights_without (fun _ _ _ _ _ _ us hl => match us, hl with | [_, _], _ => rfl) (fun f cdv A outer s H E hr => ?_)
  have hr3 : Room 3 _ := hr.mono (by decide)
  have hr4 : Room 4 _ := hr.mono (by decide)
  exact s_cons (s_drop (d_peek (c_calld (ok_check_count_2 T) (fun _ _ _ => .nil) hr3 (a_cons (d_var 1) (a_cons (d_int) (a_cons (d_sub (d_peek (d_len (T.n_len) (p_cons (d_peek (d_fld (d_look 0) T.c_Sights T.k_Sights T.a_Sights_seen)) (p_nil)))) (d_peek (d_int))) (a_nil)))))))
      (s_one (s_ret (c_make (ok_Sights___init__ T) T.c_Sights hr4 (a_cons (d_fld (d_look 0) T.c_Sights T.k_Sights T.a_Sights_lot) (a_cons (d_fld (d_look 0) T.c_Sights T.k_Sights T.a_Sights_limit) (a_cons (d_add (d_peek (d_give (d_slL (d_peek (d_fld (d_look 0) T.c_Sights T.k_Sights T.a_Sights_seen)) (o_none) (o_some (d_look 1))))) (d_peek (d_give (d_slL (d_peek (d_fld (d_look 0) T.c_Sights T.k_Sights T.a_Sights_seen)) (o_some (d_peek (d_add (d_look 1) (d_peek (d_int))))) (o_none))))) (a_nil)))))))
/-! ### Sights.names -/
def b_Sights_names : SS := sRet (eL (eBi gList (aCons (eFld "Sights" "lot" (ePeek 0)) (aNil))))
def m_Sights_names : FM := fnM 1 1 b_Sights_names
theorem sc_Sights_names : FnScope ["self"] ["self"] (defScope s_Sights_names) := ⟨rfl, rfl, rfl, by decide +kernel, rfl, by decide +kernel, by decide +kernel⟩
theorem ok_Sights_names (T : Txt0 K mg C_Sights) : OkM P w K mg base 1 C_Sights "names" ["self"] m_Sights_names := by
  refine okM_mk (nm := ["self"]) T.F_Sights_names sc_Sights_names (fun _ _ _ _ _ _ us hl => match us, hl with | [_], _ => rfl) (fun f cdv A outer s H E hr => ?_)
  exact s_one (s_ret (d_give (d_list (T.n_list) (p_cons (d_peek (d_fld (d_look 0) T.c_Sights T.k_Sights T.a_Sights_lot)) (p_nil)))))
/-! ### _law_grown_right -/
def b__law_grown_right : SS := sSeq (sSet 4 (eMake "Sights" m_Sights___init__ [] (aCons (eVar 1) (aCons (eVar 2) (aCons (eL (lDisp (aNil))) (aNil))))))
  (sSeq (sFor (iRg1 (aCons (eBi gLen (aCons (ePeek 3) (aNil))) (aNil))) (asgN 5)
  (sSeq (sSet 6 (eTup (aCons (eDcl (eBi gDictD (aCons (eOp oIx (eOp oIx (ePeek 3) (ePeek 5)) (eC (.int 0))) (aNil)))) (aCons (eOp oIx (eOp oIx (ePeek 3) (ePeek 5)) (eC (.int 1))) (aCons (eOp oIx (eOp oIx (ePeek 3) (ePeek 5)) (eC (.int 2))) (aNil))))))
  (sSeq (sSet 4 (eMeth "Sights" "with_row" m_Sights_with_row [] (eVar 4) (aCons (eVar 6) (aNil))))
  (sSeq (sPutDC (eOp oIx (ePeek 6) (eC (.int 0))) (eOp oIx (ePeek 1) (eC (.int 0))) (eOp oPow (eC (.int 10)) (eC (.int 9))))
  (sIf (bOf (eOp oNe (eBi gStrD (aCons (eCall m_fits [] (aCons (eVar 4) (aNil))) (aNil))) (eBi gStrD (aCons (eOp oEq (eCall m__law_pairs [] (aCons (eVar 1) (aCons (eVar 2) (aCons (eL (eSl slL (ePeek 3) (oNone) (oSome (eOp oAdd (ePeek 5) (eC (.int 1)))))) (aNil))))) (eL (lDisp (aNil)))) (aNil)))))
  (sRet (eC (.bl false)))
  (sNil))))))
  (sSeq (sIf (bOr (bOf (eOwn "Sights" CS true m_Sights___eq__ (eVar 4) (eVar 0))) (bOr (bOf (eOp (oEqZ true) (eMeth "Sights" "rows" m_Sights_rows [] (eVar 4) (aNil)) (ePeek 3))) (bOf (eOp oNe (eMeth "Sights" "most" m_Sights_most [] (eVar 4) (aNil)) (ePeek 2)))))
  (sRet (eC (.bl false)))
  (sNil))
  (sSeq (sIf (bOf (eOp oNe (eOp oIsN (eCall m_clash [] (aCons (eVar 4) (aNil))) (eC .non)) (eOp oEq (eCall m__law_pairs [] (aCons (eVar 1) (aCons (eVar 2) (aCons (eVar 3) (aNil))))) (eL (lDisp (aNil))))))
  (sRet (eC (.bl false)))
  (sNil))
  (sSeq (sFor (iRg1 (aCons (eBi gLen (aCons (ePeek 3) (aNil))) (aNil))) (asgN 5)
  (sSeq (sSet 7 (eMeth "Sights" "without" m_Sights_without [] (eVar 4) (aCons (eVar 5) (aNil))))
  (sSeq (sIf (bOr (bOf (eOp (oEqZ true) (eMeth "Sights" "rows" m_Sights_rows [] (eVar 7) (aNil)) (eOp oAdd (eL (eSl slL (ePeek 3) (oNone) (oSome (ePeek 5)))) (eL (eSl slL (ePeek 3) (oSome (eOp oAdd (ePeek 5) (eC (.int 1)))) (oNone)))))) (bOr (bOf (eOp oNe (eMeth "Sights" "most" m_Sights_most [] (eVar 7) (aNil)) (ePeek 2))) (bOf (eOp oNe (eMeth "Sights" "names" m_Sights_names [] (eVar 7) (aNil)) (ePeek 1)))))
  (sRet (eC (.bl false)))
  (sNil))
  (sIf (bOf (eOp oNe (eBi gStrD (aCons (eCall m_fits [] (aCons (eVar 7) (aNil))) (aNil))) (eBi gStrD (aCons (eOp oEq (eCall m__law_pairs [] (aCons (eVar 1) (aCons (eVar 2) (aCons (eMeth "Sights" "rows" m_Sights_rows [] (eVar 7) (aNil)) (aNil))))) (eL (lDisp (aNil)))) (aNil)))))
  (sRet (eC (.bl false)))
  (sNil)))))
  (sRet (eC (.bl true)))))))
def m__law_grown_right : FM := fnM 4 8 b__law_grown_right
theorem sc__law_grown_right : FnScope ["_law_sights", "_law_names_here", "_law_most", "_law_seen_here", "_law_grown", "_law_at", "_law_handed", "_law_less"] ["_law_sights", "_law_names_here", "_law_most", "_law_seen_here"] (defScope s__law_grown_right) := ⟨rfl, rfl, rfl, by decide +kernel, rfl, by decide +kernel, by decide +kernel⟩
theorem ok__law_grown_right (T : Txt0 K mg C_Sights) : OkD P w K mg base 6 "_law_grown_right" ["_law_sights", "_law_names_here", "_law_most", "_law_seen_here"] m__law_grown_right := by
  refine okD_mk (nm := ["_law_sights", "_law_names_here", "_law_most", "_law_seen_here", "_law_grown", "_law_at", "_law_handed", "_law_less"]) T.F__law_grown_right sc__law_grown_right (fun _ _ _ _ _ _ us hl => match us, hl with | [_, _, _, _], _ => rfl) (fun f cdv A outer s H E hr hgd => ?_)
  have hr1 : Room 1 _ := hr.mono (by decide)
  have hr2 : Room 2 _ := hr.mono (by decide)
  have hr3 : Room 3 _ := hr.mono (by decide)
  have hr4 : Room 4 _ := hr.mono (by decide)
  have hr5 : Room 5 _ := hr.mono (by decide)
  exact s_cons (s_set (i := 4) sc__law_grown_right.nd (c_make (ok_Sights___init__ T) T.c_Sights hr4 (a_cons (d_var 1) (a_cons (d_var 2) (a_cons (d_give (d_lst (a_nil))) (a_nil))))))
      (s_cons (s_for PassesOwn.never rfl (i_rg1 (T.n_range) (p_cons (d_peek (d_len (T.n_len) (p_cons (d_look 3) (p_nil)))) (p_nil))) (t_name (i := 5) sc__law_grown_right.nd) (gok_name 5)
      (s_cons (s_set (i := 6) sc__law_grown_right.nd (d_tup (a_cons (d_dcl (d_dictD T.n_dict (p_cons (d_peek (d_ix (d_peek (d_ix (d_look 3) (d_look 5))) (d_peek (d_int)))) (p_nil)))) (a_cons (d_ix (d_peek (d_ix (d_look 3) (d_look 5))) (d_peek (d_int))) (a_cons (d_ix (d_peek (d_ix (d_look 3) (d_look 5))) (d_peek (d_int))) (a_nil))))))
      (s_cons (s_set (i := 4) sc__law_grown_right.nd (c_meth (ok_Sights_with_row T) T.c_Sights T.k_Sights hr5 (d_var 4) (a_cons (d_var 6) (a_nil))))
      (s_cons (s_putDC (u1 hr) (d_pow (d_peek (d_int)) (d_peek (d_int))) (d_ix (d_look 6) (d_peek (d_int))) (d_peek (d_ix (d_look 1) (d_peek (d_int)))))
      (s_one (s_if (d_testC (d_peek (d_ne hr.units (d_peek (d_strD hgd (u80 hr) (T.n_str) (p_cons (d_peek (c_call (ok_fits T) hr4 (a_cons (d_var 4) (a_nil)))) (p_nil)))) (d_peek (d_strD hgd (u80 hr) (T.n_str) (p_cons (d_peek (d_eq hr.units (d_peek (c_call (ok__law_pairs T) hr3 (a_cons (d_var 1) (a_cons (d_var 2) (a_cons (d_give (d_slL (d_look 3) (o_none) (o_some (d_peek (d_add (d_look 5) (d_peek (d_int))))))) (a_nil)))))) (d_peek (d_give (d_lst (a_nil)))))) (p_nil)))))))
      (s_one (s_ret (d_bl)))
      (s_nil)))))))
      (s_cons (s_if (w_pt (w_or (d_testC (d_peek (c_ne (eq_Sights T) T.c_Sights hr2 (d_var 4) (d_var 0)))) (w_or (d_testC (d_peek (d_neZ hr.units (d_peek (c_meth0 (ok_Sights_rows T) T.c_Sights T.k_Sights hr1 (d_var 4))) (d_look 3)))) (w_or1 (d_testC (d_peek (d_ne hr.units (d_peek (c_meth0 (ok_Sights_most T) T.c_Sights T.k_Sights hr1 (d_var 4))) (d_look 2))))))))
      (s_one (s_ret (d_bl)))
      (s_nil))
      (s_cons (s_if (d_testC (d_peek (d_ne hr.units (d_peek (d_isN (d_peek (c_call (ok_clash T) hr4 (a_cons (d_var 4) (a_nil)))) (d_peek (d_non)))) (d_peek (d_eq hr.units (d_peek (c_call (ok__law_pairs T) hr3 (a_cons (d_var 1) (a_cons (d_var 2) (a_cons (d_var 3) (a_nil)))))) (d_peek (d_give (d_lst (a_nil)))))))))
      (s_one (s_ret (d_bl)))
      (s_nil))
      (s_cons (s_for PassesOwn.never rfl (i_rg1 (T.n_range) (p_cons (d_peek (d_len (T.n_len) (p_cons (d_look 3) (p_nil)))) (p_nil))) (t_name (i := 5) sc__law_grown_right.nd) (gok_name 5)
      (s_cons (s_set (i := 7) sc__law_grown_right.nd (c_meth (ok_Sights_without T) T.c_Sights T.k_Sights hr5 (d_var 4) (a_cons (d_var 5) (a_nil))))
      (s_cons (s_if (w_pt (w_or (d_testC (d_peek (d_neZ hr.units (d_peek (c_meth0 (ok_Sights_rows T) T.c_Sights T.k_Sights hr1 (d_var 7))) (d_peek (d_add (d_peek (d_give (d_slL (d_look 3) (o_none) (o_some (d_look 5))))) (d_peek (d_give (d_slL (d_look 3) (o_some (d_peek (d_add (d_look 5) (d_peek (d_int))))) (o_none))))))))) (w_or (d_testC (d_peek (d_ne hr.units (d_peek (c_meth0 (ok_Sights_most T) T.c_Sights T.k_Sights hr1 (d_var 7))) (d_look 2)))) (w_or1 (d_testC (d_peek (d_ne hr.units (d_peek (c_meth0 (ok_Sights_names T) T.c_Sights T.k_Sights hr1 (d_var 7))) (d_look 1))))))))
      (s_one (s_ret (d_bl)))
      (s_nil))
      (s_one (s_if (d_testC (d_peek (d_ne hr.units (d_peek (d_strD hgd (u80 hr) (T.n_str) (p_cons (d_peek (c_call (ok_fits T) hr4 (a_cons (d_var 7) (a_nil)))) (p_nil)))) (d_peek (d_strD hgd (u80 hr) (T.n_str) (p_cons (d_peek (d_eq hr.units (d_peek (c_call (ok__law_pairs T) hr3 (a_cons (d_var 1) (a_cons (d_var 2) (a_cons (c_meth0 (ok_Sights_rows T) T.c_Sights T.k_Sights hr1 (d_var 7)) (a_nil)))))) (d_peek (d_give (d_lst (a_nil)))))) (p_nil)))))))
      (s_one (s_ret (d_bl)))
      (s_nil))))))
      (s_one (s_ret (d_bl)))))))
/-! ### check_clash -/
def b_check_clash : SS := sSeq (sDrop (eCall m_check_sights [] (aCons (eVar 0) (aNil))))
  (sSeq (sIf (bOr (bNot (bOf (eBi (gIsi CS) (aCons (ePeek 1) (aCons (eC (.ty "tuple")) (aNil)))))) (bOr (bOf (eOp oNe (eBi gLen (aCons (ePeek 1) (aNil))) (eC (.int 2)))) (bOf (eOp oNeN (eL (lComp (iSeq (eVar 1)) (asgN 2) (bNot (bOf (eCall m_is_count [] (aCons (eVar 2) (aNil))))) (eVar 2) [2])) (eL (lDisp (aNil)))))))
  (sRet (eC (.bl false)))
  (sNil))
  (sRet (eOp (oInP false) (ePeek 1) (eMeth "Sights" "clashes" m_Sights_clashes [] (eVar 0) (aNil)))))
def m_check_clash : FM := fnM 2 3 b_check_clash
theorem sc_check_clash : FnScope ["sights", "value", "at"] ["sights", "value"] (defScope s_check_clash) := ⟨rfl, rfl, rfl, by decide +kernel, rfl, by decide +kernel, by decide +kernel⟩
theorem ok_check_clash (T : Txt0 K mg C_Sights) : OkF P w K mg base 4 "check_clash" ["sights", "value"] m_check_clash := by
  refine okF_mk (nm := ["sights", "value", "at"]) T.F_check_clash sc_check_clash (fun _ _ _ _ _ _ us hl => match us, hl with | [_, _], _ => rfl) (fun f cdv A outer s H E hr => ?_)
  have hr1 : Room 1 _ := hr.mono (by decide)
  have hr2 : Room 2 _ := hr.mono (by decide)
  have hr3 : Room 3 _ := hr.mono (by decide)
  exact s_cons (s_drop (d_peek (c_call (ok_check_sights T) hr1 (a_cons (d_var 0) (a_nil)))))
      (s_cons (s_if (w_pt (w_or (d_not (d_test (d_peek (d_isi T.isi (T.n_isinstance) (p_cons (d_look 1) (p_cons (d_peek (d_ty (by rfl) (T.n_tuple) (by rfl))) (p_nil))))))) (w_or (d_testC (d_peek (d_ne hr.units (d_peek (d_len (T.n_len) (p_cons (d_look 1) (p_nil)))) (d_peek (d_int))))) (w_or1 (d_testC (d_peek (d_neN (u0 hr) (d_peek (d_give (d_lc rfl sc_check_clash.nd (i_seq (d_var 1)) (blkOk_by (own := [("at", 2)]) (by first | (show blkC ["sights", "value", "at"] (defScope s_check_clash) _ _ = true; decide +kernel) | kernel_rfl | rfl)) (fun _ _ _ _ _ => t_name (i := 2) sc_check_clash.nd) (gok_name 2) (by decide) (fun _ _ _ _ _ => pts_oneT (d_not (d_test (d_peek (c_call (ok_is_count T) hr2 (a_cons (d_var 2) (a_nil))))))) (fun _ _ _ _ _ => d_var 2)))) (d_peek (d_give (d_lst (a_nil)))))))))))
      (s_one (s_ret (d_bl)))
      (s_nil))
      (s_one (s_ret (d_inP (u65 hr) (d_look 1) (d_peek (c_meth0 (ok_Sights_clashes T) T.c_Sights T.k_Sights hr3 (d_var 0)))))))
/-! ### _law_judged_right -/
def b__law_judged_right : SS := sSeq (sSet 4 (eL (lComp (iSeq (eCall m__law_pairs [] (aCons (eVar 1) (aCons (eVar 2) (aCons (eVar 3) (aNil)))))) (asgN 5) (bYes) (eBi gStrD (aCons (ePeek 5) (aNil))) [5])))
  (sSeq (sIf (bNot (bOf (eCall m__law_grown_right [] (aCons (eVar 0) (aCons (eVar 1) (aCons (eVar 2) (aCons (eVar 3) (aNil))))))))
  (sRet (eC (.bl false)))
  (sNil))
  (sSeq (sSet 6 (eCall m_clash [] (aCons (eVar 0) (aNil))))
  (sSeq (sIf (bOr (bOf (eOp oNe (eOp oIsN (ePeek 6) (eC .non)) (eOp oEq (ePeek 4) (eL (lDisp (aNil)))))) (bAnd (bOf (eOp oNotN (ePeek 6) (eC .non))) (bOf (eOp (oInL true) (eBi gStrD (aCons (ePeek 6) (aNil))) (ePeek 4)))))
  (sRet (eC (.bl false)))
  (sNil))
  (sSeq (sIf (bOf (eOp oNe (eBi gStrD (aCons (eCall m_fits [] (aCons (eVar 0) (aNil))) (aNil))) (eBi gStrD (aCons (eOp oEq (ePeek 4) (eL (lDisp (aNil)))) (aNil)))))
  (sRet (eC (.bl false)))
  (sNil))
  (sSeq (sFor (iRg2 (aCons (eNeg (eC (.int 1))) (aCons (eOp oAdd (eBi gLen (aCons (ePeek 3) (aNil))) (eC (.int 1))) (aNil)))) (asgN 7)
  (sFor (iRg2 (aCons (eNeg (eC (.int 1))) (aCons (eOp oAdd (eBi gLen (aCons (ePeek 3) (aNil))) (eC (.int 1))) (aNil)))) (asgN 8)
  (sSeq (sIf (bOf (eOp oNe (eBi gStrD (aCons (eCall m_check_clash [] (aCons (eVar 0) (aCons (eTup (aCons (eVar 7) (aCons (eVar 8) (aNil)))) (aNil)))) (aNil))) (eBi gStrD (aCons (eOp (oInL false) (eBi gStrD (aCons (eTup (aCons (eVar 7) (aCons (eVar 8) (aNil)))) (aNil))) (ePeek 4)) (aNil)))))
  (sRet (eC (.bl false)))
  (sNil))
  (sIf (bOr (bOf (eOp (oIsB true) (eCall m_check_clash [] (aCons (eVar 0) (aCons (eL (lDisp (aCons (eVar 7) (aCons (eVar 8) (aNil))))) (aNil)))) (eC (.bl false)))) (bOf (eOp (oIsB true) (eCall m_check_clash [] (aCons (eVar 0) (aCons (eTup (aCons (eVar 7) (aCons (eVar 8) (aCons (eC (.int 0)) (aNil))))) (aNil)))) (eC (.bl false)))))
  (sRet (eC (.bl false)))
  (sNil)))))
  (sSeq (sSet 9 (eL (lDisp (aCons (eC .non) (aCons (eC (.int 0)) (aCons (eTup (aNil)) (aCons (eTup (aCons (eC (.int 0)) (aNil))) (aCons (eC (.str "00")) (aCons (eD (lD0)) (aCons (eL (lDisp (aNil))) (aCons (eTup (aCons (eC .non) (aCons (eC (.int 0)) (aNil)))) (aCons (eTup (aCons (eC (.str "0")) (aCons (eC (.str "0")) (aNil)))) (aCons (eTup (aCons (eC (.bl true)) (aCons (eC (.bl false)) (aNil)))) (aCons (eTup (aCons (eC (.bl false)) (aCons (eC (.bl false)) (aNil)))) (aCons (eTup (aCons (eTup (aCons (eC (.int 0)) (aCons (eC (.int 0)) (aNil)))) (aNil))) (aNil))))))))))))))))
  (sSeq (sFor (iSeq (eOp oAdd (ePeek 9) (eL (lDisp (aCons (eTup (aCons (eL (lDisp (aNil))) (aCons (eL (lDisp (aNil))) (aNil)))) (aCons (eTup (aCons (eC (.int 0)) (aCons (eC (.bl true)) (aNil)))) (aCons (eTup (aCons (eC (.int 0)) (aCons (eC .non) (aNil)))) (aCons (eTup (aCons (eC (.int 0)) (aCons (eC (.str "0")) (aNil)))) (aCons (eTup (aCons (eD (lD0)) (aCons (eC (.int 0)) (aNil)))) (aNil)))))))))) (asgN 10)
  (sIf (bOf (eOp (oIsB true) (eCall m_check_clash [] (aCons (eVar 0) (aCons (eVar 10) (aNil)))) (eC (.bl false))))
  (sRet (eC (.bl false)))
  (sNil)))
  (sRet (eC (.bl true))))))))))
def m__law_judged_right : FM := fnM 4 11 b__law_judged_right
theorem sc__law_judged_right : FnScope ["_law_sights", "_law_names_here", "_law_most", "_law_seen_here", "_law_bad", "_law_pair", "_law_told", "_law_one", "_law_other", "_law_odd", "_law_thing"] ["_law_sights", "_law_names_here", "_law_most", "_law_seen_here"] (defScope s__law_judged_right) := ⟨rfl, rfl, rfl, by decide +kernel, rfl, by decide +kernel, by decide +kernel⟩
theorem ok__law_judged_right (T : Txt0 K mg C_Sights) : OkD P w K mg base 7 "_law_judged_right" ["_law_sights", "_law_names_here", "_law_most", "_law_seen_here"] m__law_judged_right := by
  refine okD_mk (nm := ["_law_sights", "_law_names_here", "_law_most", "_law_seen_here", "_law_bad", "_law_pair", "_law_told", "_law_one", "_law_other", "_law_odd", "_law_thing"]) T.F__law_judged_right sc__law_judged_right (fun _ _ _ _ _ _ us hl => match us, hl with | [_, _, _, _], _ => rfl) (fun f cdv A outer s H E hr hgd => ?_)
  have hr3 : Room 3 _ := hr.mono (by decide)
  have hr4 : Room 4 _ := hr.mono (by decide)
  have hr6 : Room 6 _ := hr.mono (by decide)
  exact s_cons (s_lc (i := 4) rfl sc__law_judged_right.nd rfl rfl (sw_true rfl rfl rfl (by decide +kernel)) (i_seq (c_call (ok__law_pairs T) hr3 (a_cons (d_var 1) (a_cons (d_var 2) (a_cons (d_var 3) (a_nil)))))) (blkOk_by (own := [("_law_pair", 5)]) (by first | (show blkC ["_law_sights", "_law_names_here", "_law_most", "_law_seen_here", "_law_bad", "_law_pair", "_law_told", "_law_one", "_law_other", "_law_odd", "_law_thing"] (defScope s__law_judged_right) _ _ = true; decide +kernel) | kernel_rfl | rfl)) (fun _ _ _ _ _ => t_name (i := 5) sc__law_judged_right.nd) (gok_name 5) (by decide) (fun _ _ _ _ _ => pts_nilT) (fun _ _ _ _ _ => d_strD hgd (u80 hr) (T.n_str) (p_cons (d_look 5) (p_nil))))
      (s_cons (s_if (d_not (d_test (d_peek (c_callD (ok__law_grown_right T) hr6 hgd (a_cons (d_var 0) (a_cons (d_var 1) (a_cons (d_var 2) (a_cons (d_var 3) (a_nil)))))))))
      (s_one (s_ret (d_bl)))
      (s_nil))
      (s_cons (s_set (i := 6) sc__law_judged_right.nd (c_call (ok_clash T) hr4 (a_cons (d_var 0) (a_nil))))
      (s_cons (s_if (w_pt (w_or (d_testC (d_peek (d_ne hr.units (d_peek (d_isN (d_look 6) (d_peek (d_non)))) (d_peek (d_eq hr.units (d_look 4) (d_peek (d_give (d_lst (a_nil))))))))) (w_or1 (w_pt (w_and (d_testC (d_peek (d_notN (d_look 6) (d_peek (d_non))))) (w_and1 (d_testC (d_peek (d_ninL (u65 hr) (d_peek (d_strD hgd (u80 hr) (T.n_str) (p_cons (d_look 6) (p_nil)))) (d_look 4))))))))))
      (s_one (s_ret (d_bl)))
      (s_nil))
      (s_cons (s_if (d_testC (d_peek (d_ne hr.units (d_peek (d_strD hgd (u80 hr) (T.n_str) (p_cons (d_peek (c_call (ok_fits T) hr4 (a_cons (d_var 0) (a_nil)))) (p_nil)))) (d_peek (d_strD hgd (u80 hr) (T.n_str) (p_cons (d_peek (d_eq hr.units (d_look 4) (d_peek (d_give (d_lst (a_nil)))))) (p_nil)))))))
      (s_one (s_ret (d_bl)))
      (s_nil))
      (s_cons (s_for PassesOwn.never rfl (i_rg2 (T.n_range) (p_cons (d_peek (d_neg (d_peek (d_int)))) (p_cons (d_peek (d_add (d_peek (d_len (T.n_len) (p_cons (d_look 3) (p_nil)))) (d_peek (d_int)))) (p_nil)))) (t_name (i := 7) sc__law_judged_right.nd) (gok_name 7)
      (s_one (s_for PassesOwn.never rfl (i_rg2 (T.n_range) (p_cons (d_peek (d_neg (d_peek (d_int)))) (p_cons (d_peek (d_add (d_peek (d_len (T.n_len) (p_cons (d_look 3) (p_nil)))) (d_peek (d_int)))) (p_nil)))) (t_name (i := 8) sc__law_judged_right.nd) (gok_name 8)
      (s_cons (s_if (d_testC (d_peek (d_ne hr.units (d_peek (d_strD hgd (u80 hr) (T.n_str) (p_cons (d_peek (c_call (ok_check_clash T) hr4 (a_cons (d_var 0) (a_cons (d_tup (a_cons (d_var 7) (a_cons (d_var 8) (a_nil)))) (a_nil))))) (p_nil)))) (d_peek (d_strD hgd (u80 hr) (T.n_str) (p_cons (d_peek (d_inL (u65 hr) (d_peek (d_strD hgd (u80 hr) (T.n_str) (p_cons (d_peek (d_tup (a_cons (d_var 7) (a_cons (d_var 8) (a_nil))))) (p_nil)))) (d_look 4))) (p_nil)))))))
      (s_one (s_ret (d_bl)))
      (s_nil))
      (s_one (s_if (w_pt (w_or (d_testC (d_peek (d_isntB (d_peek (c_call (ok_check_clash T) hr4 (a_cons (d_var 0) (a_cons (d_give (d_lst (a_cons (d_var 7) (a_cons (d_var 8) (a_nil))))) (a_nil))))) (d_peek (d_bl))))) (w_or1 (d_testC (d_peek (d_isntB (d_peek (c_call (ok_check_clash T) hr4 (a_cons (d_var 0) (a_cons (d_tup (a_cons (d_var 7) (a_cons (d_var 8) (a_cons (d_int) (a_nil))))) (a_nil))))) (d_peek (d_bl))))))))
      (s_one (s_ret (d_bl)))
      (s_nil)))))))
      (s_cons (s_set (i := 9) sc__law_judged_right.nd (d_give (d_lst (a_cons (d_non) (a_cons (d_int) (a_cons (d_tup (a_nil)) (a_cons (d_tup (a_cons (d_int) (a_nil))) (a_cons (d_str) (a_cons (d_giveD (d_d0)) (a_cons (d_give (d_lst (a_nil))) (a_cons (d_tup (a_cons (d_non) (a_cons (d_int) (a_nil)))) (a_cons (d_tup (a_cons (d_str) (a_cons (d_str) (a_nil)))) (a_cons (d_tup (a_cons (d_bl) (a_cons (d_bl) (a_nil)))) (a_cons (d_tup (a_cons (d_bl) (a_cons (d_bl) (a_nil)))) (a_cons (d_tup (a_cons (d_tup (a_cons (d_int) (a_cons (d_int) (a_nil)))) (a_nil))) (a_nil))))))))))))))))
      (s_cons (s_for PassesOwn.never rfl (i_seq (d_add (d_look 9) (d_peek (d_give (d_lst (a_cons (d_tup (a_cons (d_give (d_lst (a_nil))) (a_cons (d_give (d_lst (a_nil))) (a_nil)))) (a_cons (d_tup (a_cons (d_int) (a_cons (d_bl) (a_nil)))) (a_cons (d_tup (a_cons (d_int) (a_cons (d_non) (a_nil)))) (a_cons (d_tup (a_cons (d_int) (a_cons (d_str) (a_nil)))) (a_cons (d_tup (a_cons (d_giveD (d_d0)) (a_cons (d_int) (a_nil)))) (a_nil))))))))))) (t_name (i := 10) sc__law_judged_right.nd) (gok_name 10)
      (s_one (s_if (d_testC (d_peek (d_isntB (d_peek (c_call (ok_check_clash T) hr4 (a_cons (d_var 0) (a_cons (d_var 10) (a_nil))))) (d_peek (d_bl)))))
      (s_one (s_ret (d_bl)))
      (s_nil))))
      (s_one (s_ret (d_bl))))))))))
/-! ### law -/
def b_law : SS := sSeq (sFor (iSeq (eCall m__law_purses [] (aCons (eVar 0) (aCons (eC (.int 3)) (aNil))))) (asgN 1)
  (sSeq (sPar 2 3 (.val (eL (eBi gSortS (aCons (eCall m__law_names [] (aCons (eVar 1) (aCons (eC (.int 2)) (aNil)))) (aNil))))) (.val (eCall m__law_draw [] (aCons (eVar 1) (aCons (eC (.int 3)) (aNil))))))
  (sSeq (sSet 4 (eCall m__law_seen [] (aCons (eVar 1) (aCons (eVar 2) (aCons (eVar 3) (aCons (eCall m__law_draw [] (aCons (eVar 1) (aCons (eC (.int 4)) (aNil)))) (aNil)))))))
  (sSeq (sPar 5 6 (.val (eCall m__law_copied [] (aCons (eVar 4) (aNil)))) (.val (eMake "Sights" m_Sights___init__ [] (aCons (eVar 2) (aCons (eVar 3) (aCons (eVar 4) (aNil)))))))
  (sSeq (sSet 7 (eL (lComp (iSeq (eCall m__law_every [] (aCons (eVar 2) (aCons (eVar 3) (aNil))))) (asgN 8) (bOf (eCall m__law_suits [] (aCons (eVar 8) (aCons (eVar 4) (aNil))))) (eVar 8) [8])))
  (sSeq (sIf (bOr (bOf (eOp oNe (eOp oEq (eCall m__law_pairs [] (aCons (eVar 2) (aCons (eVar 3) (aCons (eVar 4) (aNil))))) (eL (lDisp (aNil)))) (eOp oNeN (ePeek 7) (eL (lDisp (aNil)))))) (bNot (bOf (eCall m__law_judged_right [] (aCons (eVar 6) (aCons (eVar 2) (aCons (eVar 3) (aCons (eVar 4) (aNil)))))))))
  (sRet (eC (.bl false)))
  (sNil))
  (sSeq (sIf (bOr (bOf (eOp (oEqZ true) (ePeek 4) (ePeek 5))) (bOf (eOp (oEqZ true) (eMeth "Sights" "rows" m_Sights_rows [] (eVar 6) (aNil)) (ePeek 5))))
  (sRet (eC (.bl false)))
  (sNil))
  (sSeq (sSet 9 (eL (eBi gSortS (aCons (eCall m__law_names [] (aCons (eVar 1) (aCons (eOp oAdd (eC (.int 1)) (eCall m__law_draw [] (aCons (eVar 1) (aCons (eC (.int 4)) (aNil))))) (aNil)))) (aNil)))))
  (sSeq (sSet 3 (eCall m__law_one_of [] (aCons (eVar 1) (aCons (eL (lDisp (aCons (eC .non) (aCons (eC (.int 0)) (aCons (eC (.int 3)) (aCons (eC (.int 7)) (aCons (eOp oPow (eC (.int 10)) (eC (.int 11))) (aNil)))))))) (aNil)))))
  (sSeq (sSet 4 (eCall m__law_seen [] (aCons (eVar 1) (aCons (eVar 9) (aCons (eVar 3) (aCons (eOp oAdd (eC (.int 1)) (eCall m__law_draw [] (aCons (eVar 1) (aCons (eC (.int 5)) (aNil))))) (aNil)))))))
  (sIf (bNot (bOf (eCall m__law_judged_right [] (aCons (eMake "Sights" m_Sights___init__ [] (aCons (eVar 9) (aCons (eVar 3) (aCons (eVar 4) (aNil))))) (aCons (eVar 9) (aCons (eVar 3) (aCons (eVar 4) (aNil))))))))
  (sRet (eC (.bl false)))
  (sNil))))))))))))
  (sSeq (sSet 10 (eL (lDisp (aCons (eTup (aCons (eD (lDd [(eC (.str "a"), eC (.int 0)), (eC (.str "b"), eC (.int 0))])) (aCons (eC (.int 2)) (aCons (eC (.int 2)) (aNil))))) (aCons (eTup (aCons (eD (lDd [(eC (.str "a"), eC (.int 0)), (eC (.str "b"), eC (.int 5))])) (aCons (eC (.int 3)) (aCons (eC (.int 3)) (aNil))))) (aCons (eTup (aCons (eD (lDd [(eC (.str "a"), eC (.int 1)), (eC (.str "b"), eC (.int 9))])) (aCons (eC (.int 2)) (aCons (eC (.int 2)) (aNil))))) (aNil)))))))
  (sSeq (sSet 11 (eL (lComp (iSeq (eTup (aCons (eC (.int 0)) (aCons (eC (.int 3)) (aCons (eC .non) (aNil)))))) (asgN 3) (bYes) (eCall m_clash [] (aCons (eMake "Sights" m_Sights___init__ [] (aCons (eL (lDisp (aCons (eC (.str "a")) (aCons (eC (.str "b")) (aNil))))) (aCons (eVar 3) (aCons (eVar 10) (aNil))))) (aNil))) [3])))
  (sSeq (sIf (bOr (bOf (eOp oIsN (eOp oIx (ePeek 11) (eC (.int 0))) (eC .non))) (bOr (bOf (eOp oNInTD (eOp oIx (ePeek 11) (eC (.int 1))) (eTup (aCons (eTup (aCons (eC (.int 2)) (aCons (eC (.int 0)) (aNil)))) (aCons (eTup (aCons (eC (.int 2)) (aCons (eC (.int 1)) (aNil)))) (aNil)))))) (bOf (eOp oNInTD (eOp oIx (ePeek 11) (eC (.int 2))) (eTup (aCons (eTup (aCons (eC (.int 2)) (aCons (eC (.int 0)) (aNil)))) (aCons (eTup (aCons (eC (.int 2)) (aCons (eC (.int 1)) (aNil)))) (aNil))))))))
  (sRet (eC (.bl false)))
  (sNil))
  (sSeq (sSet 12 (eL (lComp (iRg1 (aCons (eC (.int 12)) (aNil))) (asgN 13) (bYes) (eTup (aCons (eD (lDd [(eC (.str "a"), eC (.int 0))])) (aCons (eOp oMod (ePeek 13) (eC (.int 3))) (aCons (eC (.int 3)) (aNil))))) [13])))
  (sSeq (sSet 9 (eL (lDisp (aCons (eMake "Sights" m_Sights___init__ [] (aCons (eL (lDisp (aCons (eC (.str "a")) (aNil)))) (aCons (eC (.int 5)) (aCons (eVar 12) (aNil))))) (aCons (eMake "Sights" m_Sights___init__ [] (aCons (eL (lDisp (aCons (eC (.str "a")) (aCons (eC (.str "b")) (aCons (eC (.str "c")) (aCons (eC (.str "d")) (aCons (eC (.str "e")) (aCons (eC (.str "f")) (aCons (eC (.str "g")) (aCons (eC (.str "h")) (aCons (eC (.str "i")) (aNil)))))))))))) (aCons (eC (.int 5)) (aCons (eL (lDisp (aNil))) (aNil))))) (aNil))))))
  (sSeq (sIf (bOf (eOp oNe (eL (lComp (iSeq (eVar 9)) (asgN 14) (bNot (bOf (eBi (gIsi CS) (aCons (ePeek 14) (aCons (eC (.cls "Sights")) (aNil)))))) (eC (.int 1)) [14])) (eL (lDisp (aNil)))))
  (sRet (eC (.bl false)))
  (sNil))
  (sRet (eAnd (eCall m_fits [] (aCons (eMake "Sights" m_Sights___init__ [] (aCons (eL (lDisp (aCons (eC (.str "a")) (aCons (eC (.str "b")) (aNil))))) (aCons (eC (.int 3)) (aCons (eL (eSl slL (ePeek 10) (oNone) (oSome (eC (.int 2))))) (aNil))))) (aNil))) (eOp oEq (eCall m_clash [] (aCons (eMake "Sights" m_Sights___init__ [] (aCons (eL (lDisp (aCons (eC (.str "a")) (aNil)))) (aCons (eC (.int 5)) (aCons (eL (lDisp (aCons (eTup (aCons (eD (lDd [(eC (.str "a"), eC (.int 0))])) (aCons (eC (.int 6)) (aCons (eC .non) (aNil))))) (aNil)))) (aNil))))) (aNil))) (eTup (aCons (eC (.int 0)) (aCons (eC (.int 0)) (aNil)))))))))))))
def m_law : FM := fnM 1 15 b_law
theorem sc_law : FnScope ["_law_script", "_law_purse_here", "_law_names_here", "_law_most", "_law_seen_here", "_law_kept", "_law_sights", "_law_good", "_law_lots", "_law_wide", "_law_spots", "_law_told", "_law_crowd", "_law_at", "_law_one"] ["_law_script"] (defScope s_law) := ⟨rfl, rfl, rfl, by decide +kernel, rfl, by decide +kernel, by decide +kernel⟩
theorem fn_law {fa : Addr} (T : Txt0 K mg C_Sights) (hfa : mg "law" = some (.ref fa)) : ∃ fd : FuncData, (∀ (s : Shared) (u : Value), BindsTo s fd ⟨[u], []⟩ [("_law_script", u)]) ∧ ∀ base : Heap, FnD P w K mg base 8 fa fd ["_law_script"] (spM ⟨mg, K⟩ m_law 1) := by
  refine fn_end (nm := ["_law_script", "_law_purse_here", "_law_names_here", "_law_most", "_law_seen_here", "_law_kept", "_law_sights", "_law_good", "_law_lots", "_law_wide", "_law_spots", "_law_told", "_law_crowd", "_law_at", "_law_one"]) T.F_law hfa sc_law (fun _ _ _ _ _ _ _ => rfl) (fun base f cdv A outer s H E hr hgd => ?_)
  have hr1 : Room 1 _ := hr.mono (by decide)
  have hr2 : Room 2 _ := hr.mono (by decide)
  have hr3 : Room 3 _ := hr.mono (by decide)
  have hr4 : Room 4 _ := hr.mono (by decide)
  have hr6 : Room 6 _ := hr.mono (by decide)
  have hr7 : Room 7 _ := hr.mono (by decide)
  exact s_cons (s_for PassesOwn.never rfl (i_seq (c_call (ok__law_purses T) hr2 (a_cons (d_var 0) (a_cons (d_int) (a_nil))))) (t_name (i := 1) sc_law.nd) (gok_name 1)
      (s_cons (s_par (i := 2) (j := 3) (ka := .val (eL (eBi gSortS (aCons (eCall m__law_names [] (aCons (eVar 1) (aCons (eC (.int 2)) (aNil)))) (aNil))))) (kb := .val (eCall m__law_draw [] (aCons (eVar 1) (aCons (eC (.int 3)) (aNil))))) sc_law.nd (k_val (d_give (d_sortS T.n_sorted (p_cons (d_peek (c_call (ok__law_names T) hr4 (a_cons (d_var 1) (a_cons (d_int) (a_nil))))) (p_nil))))) (k_val (c_call (ok__law_draw T) hr2 (a_cons (d_var 1) (a_cons (d_int) (a_nil))))))
      (s_cons (s_set (i := 4) sc_law.nd (c_call (ok__law_seen T) hr6 (a_cons (d_var 1) (a_cons (d_var 2) (a_cons (d_var 3) (a_cons (c_call (ok__law_draw T) hr2 (a_cons (d_var 1) (a_cons (d_int) (a_nil)))) (a_nil)))))))
      (s_cons (s_par (i := 5) (j := 6) (ka := .val (eCall m__law_copied [] (aCons (eVar 4) (aNil)))) (kb := .val (eMake "Sights" m_Sights___init__ [] (aCons (eVar 2) (aCons (eVar 3) (aCons (eVar 4) (aNil)))))) sc_law.nd (k_val (c_call (ok__law_copied T) hr1 (a_cons (d_var 4) (a_nil)))) (k_val (c_make (ok_Sights___init__ T) T.c_Sights hr4 (a_cons (d_var 2) (a_cons (d_var 3) (a_cons (d_var 4) (a_nil)))))))
      (s_cons (s_lc (i := 7) rfl sc_law.nd rfl rfl (sw_true rfl rfl rfl (by decide +kernel)) (i_seq (c_call (ok__law_every T) hr2 (a_cons (d_var 2) (a_cons (d_var 3) (a_nil))))) (blkOk_by (own := [("_law_lots", 8)]) (by first | (show blkC ["_law_script", "_law_purse_here", "_law_names_here", "_law_most", "_law_seen_here", "_law_kept", "_law_sights", "_law_good", "_law_lots", "_law_wide", "_law_spots", "_law_told", "_law_crowd", "_law_at", "_law_one"] (defScope s_law) _ _ = true; decide +kernel) | kernel_rfl | rfl)) (fun _ _ _ _ _ => t_name (i := 8) sc_law.nd) (gok_name 8) (by decide) (fun _ _ _ _ _ => pts_oneT (d_test (d_peek (c_call (ok__law_suits T) hr3 (a_cons (d_var 8) (a_cons (d_var 4) (a_nil))))))) (fun _ _ _ _ _ => d_var 8))
      (s_cons (s_if (w_pt (w_or (d_testC (d_peek (d_ne hr.units (d_peek (d_eq hr.units (d_peek (c_call (ok__law_pairs T) hr3 (a_cons (d_var 2) (a_cons (d_var 3) (a_cons (d_var 4) (a_nil)))))) (d_peek (d_give (d_lst (a_nil)))))) (d_peek (d_neN (u0 hr) (d_look 7) (d_peek (d_give (d_lst (a_nil))))))))) (w_or1 (d_not (d_test (d_peek (c_callD (ok__law_judged_right T) hr7 hgd (a_cons (d_var 6) (a_cons (d_var 2) (a_cons (d_var 3) (a_cons (d_var 4) (a_nil))))))))))))
      (s_one (s_ret (d_bl)))
      (s_nil))
      (s_cons (s_if (w_pt (w_or (d_testC (d_peek (d_neZ hr.units (d_look 4) (d_look 5)))) (w_or1 (d_testC (d_peek (d_neZ hr.units (d_peek (c_meth0 (ok_Sights_rows T) T.c_Sights T.k_Sights hr1 (d_var 6))) (d_look 5)))))))
      (s_one (s_ret (d_bl)))
      (s_nil))
      (s_cons (s_set (i := 9) sc_law.nd (d_give (d_sortS T.n_sorted (p_cons (d_peek (c_call (ok__law_names T) hr4 (a_cons (d_var 1) (a_cons (d_add (d_peek (d_int)) (d_peek (c_call (ok__law_draw T) hr2 (a_cons (d_var 1) (a_cons (d_int) (a_nil)))))) (a_nil))))) (p_nil)))))
      (s_cons (s_set (i := 3) sc_law.nd (c_call (ok__law_one_of T) hr3 (a_cons (d_var 1) (a_cons (d_give (d_lst (a_cons (d_non) (a_cons (d_int) (a_cons (d_int) (a_cons (d_int) (a_cons (d_pow (d_peek (d_int)) (d_peek (d_int))) (a_nil)))))))) (a_nil)))))
      (s_cons (s_set (i := 4) sc_law.nd (c_call (ok__law_seen T) hr6 (a_cons (d_var 1) (a_cons (d_var 9) (a_cons (d_var 3) (a_cons (d_add (d_peek (d_int)) (d_peek (c_call (ok__law_draw T) hr2 (a_cons (d_var 1) (a_cons (d_int) (a_nil)))))) (a_nil)))))))
      (s_one (s_if (d_not (d_test (d_peek (c_callD (ok__law_judged_right T) hr7 hgd (a_cons (c_make (ok_Sights___init__ T) T.c_Sights hr4 (a_cons (d_var 9) (a_cons (d_var 3) (a_cons (d_var 4) (a_nil))))) (a_cons (d_var 9) (a_cons (d_var 3) (a_cons (d_var 4) (a_nil)))))))))
      (s_one (s_ret (d_bl)))
      (s_nil)))))))))))))
      (s_cons (s_set (i := 10) sc_law.nd (d_give (d_lst (a_cons (d_tup (a_cons (d_giveD (d_disp (dd_cons (d_str) (d_int) (dd_cons (d_str) (d_int) (dd_nil))))) (a_cons (d_int) (a_cons (d_int) (a_nil))))) (a_cons (d_tup (a_cons (d_giveD (d_disp (dd_cons (d_str) (d_int) (dd_cons (d_str) (d_int) (dd_nil))))) (a_cons (d_int) (a_cons (d_int) (a_nil))))) (a_cons (d_tup (a_cons (d_giveD (d_disp (dd_cons (d_str) (d_int) (dd_cons (d_str) (d_int) (dd_nil))))) (a_cons (d_int) (a_cons (d_int) (a_nil))))) (a_nil)))))))
      (s_cons (s_lc (i := 11) rfl sc_law.nd rfl rfl (sw_true rfl rfl rfl (by decide +kernel)) (i_seq (d_tup (a_cons (d_int) (a_cons (d_int) (a_cons (d_non) (a_nil)))))) (blkOk_by (own := [("_law_most", 3)]) (by first | (show blkC ["_law_script", "_law_purse_here", "_law_names_here", "_law_most", "_law_seen_here", "_law_kept", "_law_sights", "_law_good", "_law_lots", "_law_wide", "_law_spots", "_law_told", "_law_crowd", "_law_at", "_law_one"] (defScope s_law) _ _ = true; decide +kernel) | kernel_rfl | rfl)) (fun _ _ _ _ _ => t_name (i := 3) sc_law.nd) (gok_name 3) (by decide) (fun _ _ _ _ _ => pts_nilT) (fun _ _ _ _ _ => c_call (ok_clash T) hr4 (a_cons (c_make (ok_Sights___init__ T) T.c_Sights hr4 (a_cons (d_give (d_lst (a_cons (d_str) (a_cons (d_str) (a_nil))))) (a_cons (d_var 3) (a_cons (d_var 10) (a_nil))))) (a_nil))))
      (s_cons (s_if (w_pt (w_or (d_testC (d_peek (d_isN (d_peek (d_ix (d_look 11) (d_peek (d_int)))) (d_peek (d_non))))) (w_or (d_testC (d_peek (d_ninTD (u65 hr) (d_peek (d_ix (d_look 11) (d_peek (d_int)))) (d_peek (d_tup (a_cons (d_tup (a_cons (d_int) (a_cons (d_int) (a_nil)))) (a_cons (d_tup (a_cons (d_int) (a_cons (d_int) (a_nil)))) (a_nil)))))))) (w_or1 (d_testC (d_peek (d_ninTD (u65 hr) (d_peek (d_ix (d_look 11) (d_peek (d_int)))) (d_peek (d_tup (a_cons (d_tup (a_cons (d_int) (a_cons (d_int) (a_nil)))) (a_cons (d_tup (a_cons (d_int) (a_cons (d_int) (a_nil)))) (a_nil))))))))))))
      (s_one (s_ret (d_bl)))
      (s_nil))
      (s_cons (s_lc (i := 12) rfl sc_law.nd rfl rfl (sw_true rfl rfl rfl (by decide +kernel)) (i_rg1 (T.n_range) (p_cons (d_peek (d_int)) (p_nil))) (blkOk_by (own := [("_law_at", 13)]) (by first | (show blkC ["_law_script", "_law_purse_here", "_law_names_here", "_law_most", "_law_seen_here", "_law_kept", "_law_sights", "_law_good", "_law_lots", "_law_wide", "_law_spots", "_law_told", "_law_crowd", "_law_at", "_law_one"] (defScope s_law) _ _ = true; decide +kernel) | kernel_rfl | rfl)) (fun _ _ _ _ _ => t_name (i := 13) sc_law.nd) (gok_name 13) (by decide) (fun _ _ _ _ _ => pts_nilT) (fun _ _ _ _ _ => d_tup (a_cons (d_giveD (d_disp (dd_cons (d_str) (d_int) (dd_nil)))) (a_cons (d_mod (d_look 13) (d_peek (d_int))) (a_cons (d_int) (a_nil))))))
      (s_cons (s_set (i := 9) sc_law.nd (d_give (d_lst (a_cons (c_make (ok_Sights___init__ T) T.c_Sights hr4 (a_cons (d_give (d_lst (a_cons (d_str) (a_nil)))) (a_cons (d_int) (a_cons (d_var 12) (a_nil))))) (a_cons (c_make (ok_Sights___init__ T) T.c_Sights hr4 (a_cons (d_give (d_lst (a_cons (d_str) (a_cons (d_str) (a_cons (d_str) (a_cons (d_str) (a_cons (d_str) (a_cons (d_str) (a_cons (d_str) (a_cons (d_str) (a_cons (d_str) (a_nil)))))))))))) (a_cons (d_int) (a_cons (d_give (d_lst (a_nil))) (a_nil))))) (a_nil))))))
      (s_cons (s_if (d_testC (d_peek (d_ne hr.units (d_peek (d_give (d_lc rfl sc_law.nd (i_seq (d_var 9)) (blkOk_by (own := [("_law_one", 14)]) (by first | (show blkC ["_law_script", "_law_purse_here", "_law_names_here", "_law_most", "_law_seen_here", "_law_kept", "_law_sights", "_law_good", "_law_lots", "_law_wide", "_law_spots", "_law_told", "_law_crowd", "_law_at", "_law_one"] (defScope s_law) _ _ = true; decide +kernel) | kernel_rfl | rfl)) (fun _ _ _ _ _ => t_name (i := 14) sc_law.nd) (gok_name 14) (by decide) (fun _ _ _ _ _ => pts_oneT (d_not (d_test (d_peek (d_isi T.isi (T.n_isinstance) (p_cons (d_look 14) (p_cons (d_peek (d_cls (by rfl) T.c_Sights)) (p_nil)))))))) (fun _ _ _ _ _ => d_int)))) (d_peek (d_give (d_lst (a_nil)))))))
      (s_one (s_ret (d_bl)))
      (s_nil))
      (s_one (s_ret (v_and (d_peek (c_call (ok_fits T) hr4 (a_cons (c_make (ok_Sights___init__ T) T.c_Sights hr4 (a_cons (d_give (d_lst (a_cons (d_str) (a_cons (d_str) (a_nil))))) (a_cons (d_int) (a_cons (d_give (d_slL (d_look 10) (o_none) (o_some (d_peek (d_int))))) (a_nil))))) (a_nil)))) (v_one (d_eq hr.units (d_peek (c_call (ok_clash T) hr4 (a_cons (c_make (ok_Sights___init__ T) T.c_Sights hr4 (a_cons (d_give (d_lst (a_cons (d_str) (a_nil)))) (a_cons (d_int) (a_cons (d_give (d_lst (a_cons (d_tup (a_cons (d_giveD (d_disp (dd_cons (d_str) (d_int) (dd_nil)))) (a_cons (d_int) (a_cons (d_non) (a_nil))))) (a_nil)))) (a_nil))))) (a_nil)))) (d_peek (d_tup (a_cons (d_int) (a_cons (d_int) (a_nil))))))))))))))))
theorem end_mk {h : Heap} {fa : Addr} (X : K.In h) (G : h.Ns mainGlobals mg) (hfa : mg "law" = some (.ref fa)) (a0 : PySem.W.nsIn K mainGlobals "Sights" = some (some (.ref C_Sights))) (T : Txt0 K mg C_Sights) :
    ∃ fd : FuncData, (∀ (s : Shared) (u : Value), BindsTo s fd ⟨[u], []⟩ [("_law_script", u)]) ∧ ∀ base : Heap, K.In base → base.Ns mainGlobals mg → FnD P w K mg base 8 fa fd ["_law_script"] (spM ⟨mg, K⟩ m_law 1) := by
  obtain ⟨fd, hb, hF⟩ := fn_law (P := P) (w := w) T hfa
  exact ⟨fd, hb, fun base _ _ => hF base⟩
end
end K64

namespace K64
open PySem L2 LW PyProof.Rows
theorem htxt {K : PySem.W.Frag} {h : Heap} {mg : PySem.Str → Option Value} (X : K.In h) (G : h.Ns mainGlobals mg) (c : SaysC hfa hfn hln hex K) : Txt0 K mg (He.ga K "Sights") where
  F_Sights___eq__ := mt_of (c.d.fact 0 (f := .meth "Sights" "__eq__") rfl) (c.d.def_ 0 (d := D0) rfl)
  F_Sights___init__ := in_of (c.d.fact 1 (f := .mkr "Sights") rfl) (c.d.def_ 1 (d := D1) rfl)
  F_Sights_clashes := mt_of (c.d.fact 2 (f := .meth "Sights" "clashes") rfl) (c.d.def_ 2 (d := D2) rfl)
  F_Sights_greatest_wait := mt_of (c.d.fact 3 (f := .meth "Sights" "greatest_wait") rfl) (c.d.def_ 3 (d := D3) rfl)
  F_Sights_least_wait := mt_of (c.d.fact 4 (f := .meth "Sights" "least_wait") rfl) (c.d.def_ 4 (d := D4) rfl)
  F_Sights_most := mt_of (c.d.fact 5 (f := .meth "Sights" "most") rfl) (c.d.def_ 5 (d := D5) rfl)
  F_Sights_names := mt_of (c.d.fact 6 (f := .meth "Sights" "names") rfl) (c.d.def_ 6 (d := D6) rfl)
  F_Sights_rows := mt_of (c.d.fact 7 (f := .meth "Sights" "rows") rfl) (c.d.def_ 7 (d := D7) rfl)
  F_Sights_standing := mt_of (c.d.fact 8 (f := .meth "Sights" "standing") rfl) (c.d.def_ 8 (d := D8) rfl)
  F_Sights_with_row := mt_of (c.d.fact 9 (f := .meth "Sights" "with_row") rfl) (c.d.def_ 9 (d := D9) rfl)
  F_Sights_without := mt_of (c.d.fact 10 (f := .meth "Sights" "without") rfl) (c.d.def_ 10 (d := D10) rfl)
  F__law_bounds := ft_of X G (c.d.fact 11 (f := .glo "_law_bounds") rfl) (c.d.def_ 11 (d := D11) rfl)
  F__law_copied := ft_of X G (c.d.fact 12 (f := .glo "_law_copied") rfl) (c.d.def_ 12 (d := D12) rfl)
  F__law_draw := ft_of X G (c.d.fact 13 (f := .glo "_law_draw") rfl) (c.d.def_ 13 (d := D13) rfl)
  F__law_every := ft_of X G (c.d.fact 14 (f := .glo "_law_every") rfl) (c.d.def_ 14 (d := D14) rfl)
  F__law_first_told := ft_of X G (c.d.fact 15 (f := .glo "_law_first_told") rfl) (c.d.def_ 15 (d := D15) rfl)
  F__law_grown_right := ft_of X G (c.d.fact 16 (f := .glo "_law_grown_right") rfl) (c.d.def_ 16 (d := D16) rfl)
  F__law_hidden := ft_of X G (c.d.fact 17 (f := .glo "_law_hidden") rfl) (c.d.def_ 17 (d := D17) rfl)
  F__law_judged_right := ft_of X G (c.d.fact 18 (f := .glo "_law_judged_right") rfl) (c.d.def_ 18 (d := D18) rfl)
  F__law_mixed := ft_of X G (c.d.fact 19 (f := .glo "_law_mixed") rfl) (c.d.def_ 19 (d := D19) rfl)
  F__law_names := ft_of X G (c.d.fact 20 (f := .glo "_law_names") rfl) (c.d.def_ 20 (d := D20) rfl)
  F__law_one_of := ft_of X G (c.d.fact 21 (f := .glo "_law_one_of") rfl) (c.d.def_ 21 (d := D21) rfl)
  F__law_pairs := ft_of X G (c.d.fact 22 (f := .glo "_law_pairs") rfl) (c.d.def_ 22 (d := D22) rfl)
  F__law_purse := ft_of X G (c.d.fact 23 (f := .glo "_law_purse") rfl) (c.d.def_ 23 (d := D23) rfl)
  F__law_purses := ft_of X G (c.d.fact 24 (f := .glo "_law_purses") rfl) (c.d.def_ 24 (d := D24) rfl)
  F__law_row_hour := ft_of X G (c.d.fact 25 (f := .glo "_law_row_hour") rfl) (c.d.def_ 25 (d := D25) rfl)
  F__law_seen := ft_of X G (c.d.fact 26 (f := .glo "_law_seen") rfl) (c.d.def_ 26 (d := D26) rfl)
  F__law_shuffled := ft_of X G (c.d.fact 27 (f := .glo "_law_shuffled") rfl) (c.d.def_ 27 (d := D27) rfl)
  F__law_sight := ft_of X G (c.d.fact 28 (f := .glo "_law_sight") rfl) (c.d.def_ 28 (d := D28) rfl)
  F__law_spot := ft_of X G (c.d.fact 29 (f := .glo "_law_spot") rfl) (c.d.def_ 29 (d := D29) rfl)
  F__law_standing := ft_of X G (c.d.fact 30 (f := .glo "_law_standing") rfl) (c.d.def_ 30 (d := D30) rfl)
  F__law_suits := ft_of X G (c.d.fact 31 (f := .glo "_law_suits") rfl) (c.d.def_ 31 (d := D31) rfl)
  F__law_within := ft_of X G (c.d.fact 32 (f := .glo "_law_within") rfl) (c.d.def_ 32 (d := D32) rfl)
  F__law_word := ft_of X G (c.d.fact 33 (f := .glo "_law_word") rfl) (c.d.def_ 33 (d := D33) rfl)
  F_check_clash := ft_of X G (c.d.fact 34 (f := .glo "check_clash") rfl) (c.d.def_ 34 (d := D34) rfl)
  F_check_count := ftd_of X G (c.d.fact 35 (f := .glo "check_count") rfl) (c.d.def_ 35 (d := D35) rfl)
  F_check_sights := ft_of X G (c.d.fact 36 (f := .glo "check_sights") rfl) (c.d.def_ 36 (d := D36) rfl)
  F_clash := ft_of X G (c.d.fact 37 (f := .glo "clash") rfl) (c.d.def_ 37 (d := D37) rfl)
  F_fits := ft_of X G (c.d.fact 38 (f := .glo "fits") rfl) (c.d.def_ 38 (d := D38) rfl)
  F_is_count := ft_of X G (c.d.fact 39 (f := .glo "is_count") rfl) (c.d.def_ 39 (d := D39) rfl)
  F_is_lot := ft_of X G (c.d.fact 40 (f := .glo "is_lot") rfl) (c.d.def_ 40 (d := D40) rfl)
  F_is_name := ft_of X G (c.d.fact 41 (f := .glo "is_name") rfl) (c.d.def_ 41 (d := D41) rfl)
  F_is_sight := ft_of X G (c.d.fact 42 (f := .glo "is_sight") rfl) (c.d.def_ 42 (d := D42) rfl)
  F_is_whole := ft_of X G (c.d.fact 43 (f := .glo "is_whole") rfl) (c.d.def_ 43 (d := D43) rfl)
  F_law := ft_of X G (c.d.fact 44 (f := .glo "law") rfl) (c.d.def_ 44 (d := D44) rfl)
  a_Sights_limit := He.noat_ok (c.d.fact 45 (f := .noat "Sights" "limit") rfl)
  a_Sights_lot := He.noat_ok (c.d.fact 46 (f := .noat "Sights" "lot") rfl)
  a_Sights_seen := He.noat_ok (c.d.fact 47 (f := .noat "Sights" "seen") rfl)
  c_Sights := He.glo_ok X G (c.d.fact 48 (f := .glo "Sights") rfl)
  g_LETTERS := He.str_ok X G (c.d.fact 49 (f := .str "LETTERS" "abcdefghijklmnopqrstuvwxyz") rfl)
  isi := (isi1_of (He.glo_ok X G (c.d.fact 48 (f := .glo "Sights") rfl)) (andL_ok (i := 0) c.ex rfl))
  k_Sights := He.cls_ok (c.d.fact 50 (f := .cls "Sights") rfl)
  n_bool := He.free_ok X G (c.d.fact 51 (f := .free "bool") rfl)
  n_dict := He.free_ok X G (c.d.fact 52 (f := .free "dict") rfl)
  n_int := He.free_ok X G (c.d.fact 53 (f := .free "int") rfl)
  n_isinstance := He.free_ok X G (c.d.fact 54 (f := .free "isinstance") rfl)
  n_len := He.free_ok X G (c.d.fact 55 (f := .free "len") rfl)
  n_list := He.free_ok X G (c.d.fact 56 (f := .free "list") rfl)
  n_max := He.free_ok X G (c.d.fact 57 (f := .free "max") rfl)
  n_min := He.free_ok X G (c.d.fact 58 (f := .free "min") rfl)
  n_range := He.free_ok X G (c.d.fact 59 (f := .free "range") rfl)
  n_set := He.free_ok X G (c.d.fact 60 (f := .free "set") rfl)
  n_sorted := He.free_ok X G (c.d.fact 61 (f := .free "sorted") rfl)
  n_str := He.free_ok X G (c.d.fact 62 (f := .free "str") rfl)
  n_sum := He.free_ok X G (c.d.fact 63 (f := .free "sum") rfl)
  n_tuple := He.free_ok X G (c.d.fact 64 (f := .free "tuple") rfl)
  n_zip := He.free_ok X G (c.d.fact 65 (f := .free "zip") rfl)
  ne_Sights := eqB_ok (andL_ok (i := 1) c.ex rfl)
  nf_Sights := nf_of (fun x hx => by
      rcases List.mem_cons.mp hx with rfl | hx
      · exact He.glo_ok X G (c.d.fact 48 (f := .glo "Sights") rfl)
      · cases hx) (andL_ok (i := 2) c.ex rfl)
  ob_Sights := eqB_ok (andL_ok (i := 3) c.ex rfl)
theorem hend {w : World} {K : PySem.W.Frag} {h : Heap} {mg : PySem.Str → Option Value} {fa : Addr} (X : K.In h) (G : h.Ns mainGlobals mg) (hmg : mg "law" = some (.ref fa)) (c : SaysC hfa hfn hln hex K) : ∃ fd : FuncData, (∀ (s : Shared) (u : Value), BindsTo s fd ⟨[u], []⟩ [("_law_script", u)]) ∧ ∀ base : Heap, K.In base → base.Ns mainGlobals mg → FnD HR.prog w K mg base 8 fa fd ["_law_script"] (spM ⟨mg, K⟩ m_law 1) := end_mk (P := HR.prog) (w := w) X G hmg (He.eqO_ok (c.d.fact 48 (f := .glo "Sights") rfl)) (htxt X G c)
end K64
section
open PySem PySem.W PyProof.Rows
set_option maxRecDepth 100000 in
set_option maxHeartbeats 0 in
theorem K64.hmain (plain : ∀ ns : List Int, ns.length ≤ 63 → ∃ st1, K64.m_law [.fro (ns.map LW.D.int)] [] = some (.bl true, st1)) : PySem.Challenge.rw_leafwaits_k64_whole_fits_and_clashes.Holds := by
  w_on
  o_law
  refine HandSHeadRun.head_any (r := OpenLaw.row PySem.Challenge.rw_leafwaits_k64_whole_fits_and_clashes) (q := view (OpenLaw.row PySem.Challenge.rw_leafwaits_k64_whole_fits_and_clashes).prog [45]) (H := K64.hk) (ob := K64.hob) (M := 12000) (loose := K64.hnames) (d := HandSHeadRun.topDef (OpenLaw.row PySem.Challenge.rw_leafwaits_k64_whole_fits_and_clashes).prog 45) (kwd := []) K64.hob_eq
    (by kernel_rfl) (fun s => by kernel_rfl) K64.hrun (by kernel_rfl) (by kernel_rfl) (by kernel_rfl) (by rfl) (by first | assumption | decide +kernel) (by decide +kernel) ⟨rfl, rfl, rfl, rfl, rfl, by decide +kernel⟩ ?hw ?hc
  case hw => w_witness2
  case hc =>
    refine LW.walk_DE (l := PySem.Challenge.rw_leafwaits_k64_whole_fits_and_clashes) (n := 63) (k := 8) (x := "_law_script") (g := K64.m_law) rfl (by decide) (by kernel_rfl) ⟨rfl, by decide, by decide⟩ ?F plain
    intro w mg fa h Y G hmg0
    obtain ⟨K, KX, c⟩ := Y
    have hmg : mg ("law" : PySem.Str) = some (.ref fa) := by
      have e : (HandSHeadRun.topDef (OpenLaw.row PySem.Challenge.rw_leafwaits_k64_whole_fits_and_clashes).prog 45).name = ("law" : PySem.Str) := by kernel_rfl
      rw [← e]
      exact hmg0
    exact ⟨K, KX, K64.hend KX G hmg c⟩
end

namespace K64
open PySem L2 LW
local macro_rules | `(tactic| bv_omega) => `(tactic| (repeat (first | with_reducible first | refine z_var (by with_unfolding_all rfl) ?_ | refine z_pk (by with_unfolding_all rfl) ?_ | refine z_pkO (by with_unfolding_all rfl) ?_ | refine z_retO (by with_unfolding_all rfl) ?_ | refine z_dictO (by with_unfolding_all rfl) ?_ | refine z_c ?_ | refine z_op ?_ | refine z_nil ?_ | refine z_cons ?_ | refine z_tup ?_ | refine z_lst ?_ | refine z_L ?_ | refine z_bi ?_ | refine z_call ?_ | refine z_meth ?_ | refine z_prop ?_ | refine z_fld ?_ | refine z_make ?_ | refine z_not ?_ | refine z_neg ?_ | refine z_bits ?_ | refine t_of ?_ | refine t_not ?_ | refine z_slN ?_ | refine z_oN ?_ | refine z_oS ?_ | refine z_snil ?_ | refine z_seq ?_ | refine z_set ?_ | refine z_own ?_ | refine z_ret ?_ | refine z_retC ?_ | refine z_drop ?_ | refine z_frz ?_ | refine z_app ?_ | refine z_appC ?_ | refine z_putC ?_ | refine z_for ?_ | refine z_lc ?_ | refine z_yes ?_ | refine z_kv ?_ | refine z_ko ?_ | refine z_par ?_ | refine z_unp ?_ | refine z_sfld ?_ | refine z_rg1 ?_ | refine z_rg2 ?_ | refine z_rg3 ?_ | refine z_and ?_ | refine z_or ?_ | refine z_eif ?_ | refine t_and ?_ | refine t_or ?_ | refine z_sif ?_ | refine u_add ?_ | refine u_sub ?_ | refine u_lt ?_ | refine u_le ?_ | refine u_gt ?_ | refine u_ge ?_ | refine u_isN ?_ | refine u_notN ?_ | refine z_par3 ?_ | refine z_dcl ?_ | refine z_cel ?_ | refine z_putDC ?_ | refine z_clrC ?_ | refine z_ownD ?_ | refine z_lenSN ?_ | refine z_D ?_ | refine z_dComp ?_ | refine z_lc2 ?_ | refine z_sn ?_ | refine z_makeC ?_ | refine z_methC ?_ | refine z_fldC ?_ | refine z_sfldC ?_ | refine z_xSet ?_ | refine z_methX ?_ | refine z_methCX ?_ | refine z_xIfE ?_ | refine z_xEL ?_ | refine z_xPar2 (by decide) ?_ | refine z_kD2 ?_ | refine z_par2 (by decide) ?_ | refine z_d0 ?_ | refine z_xBare ?_ | refine z_xFrz ?_ | refine z_xFor ?_ | refine z_sortIt ?_ | refine z_lenO ?_ | refine z_xSeq ?_ | refine z_xIf ?_ | refine z_xRaise ?_ | refine z_xL ?_ | refine z_xNil ?_ | refine z_xDrop ?_ | refine z_xRet ?_ | refine z_eCallX ?_ | refine z_sTry ?_ | refine z_DT ?_ | refine z_t0 ?_ | refine z_Td ?_ | refine z_ownT ?_ | refine z_putT ?_ | refine z_frzT ?_ | refine z_par3T ?_ | refine z_toT ?_ | refine z_join ?_ | refine z_sw3 ?_ | refine z_err ?_ | refine z_err0 ?_ | refine z_errB ?_ | refine z_zipL ?_ | refine z_aStar ?_ | refine z_rgV ?_ | refine z_irgV ?_ | (with_reducible refine u_mul ?_ ?_; next => first | exact mulC_r (by decide) (by decide) | exact mulC_l (by decide) (by decide) | exact mulC_r (by omega) (by omega) | exact mulC_l (by omega) (by omega)) | (with_reducible refine u_mod ?_ ?_; next => first | decide | assumption | omega) | (with_reducible refine u_div ?_ ?_; next => first | exact divC_s (by decide) (by decide) | exact divC_s (by omega) (by omega)))))
def mixed (a b c : Int) : Int := ((((a * 69069 + 104729 * b * b + 7919 * c + b) % 2147483647) * ((a * 69069 + 104729 * b * b + 7919 * c + b) % 2147483647) + 40503) % 2147483629) * 48271 % 2147483587
theorem mixed_ok {a b c : Int} {st : Sto} (hb : 0 ≤ b) (hb' : b < 2 ^ 60) : m__law_mixed [.int a, .int b, .int c] st = some (.int (mixed a b c), st) := by
  refine Ok.eq (z_fn rfl ?_)
  unfold b__law_mixed
  bv_omega
  exact ⟨rfl, rfl⟩
theorem mixed_pos (a b c : Int) : 0 ≤ mixed a b c := by unfold mixed; omega
/-- a purse as a cell holds it -/
def Pu (n : Nat) (l : List D) : Prop := ∃ a b c e : Int, l = [.int a, .int b, .int c, .int e] ∧ 0 ≤ a ∧ 0 ≤ c ∧ c ≤ n
theorem Pu.mono {n m : Nat} {l : List D} (h : Pu n l) (hm : n ≤ m) : Pu m l := by
  obtain ⟨a, b, c, e, h1, h2, h3, h4⟩ := h
  exact ⟨a, b, c, e, h1, h2, h3, by omega⟩
theorem bits_le {m : Int} (h0 : 0 < m) (h : m < 2 ^ 100) : Builtin.Int.intBits m ≤ 100 := by
  unfold Builtin.Int.intBits
  have hz : ¬ (m == 0) = true := by simp; omega
  rw [if_neg hz]
  have := (Nat.log2_lt (n := m.natAbs) (k := 100) (by omega)).mpr (by omega)
  omega
theorem set_get {l l' : List D} {st : Sto} {k : Nat} (h : st[k]? = some l) : (st.set k l')[k]? = some l' := by
  rw [List.getElem?_set_self (List.getElem?_eq_some_iff.mp h).1]
theorem set_self {l : List D} {st : Sto} {k : Nat} (h : st[k]? = some l) : st.set k l = st := by
  obtain ⟨h1, rfl⟩ := List.getElem?_eq_some_iff.mp h
  exact List.set_getElem_self h1
theorem draw_ok {n k : Nat} {l : List D} {st : Sto} {m : Int} (hk : st[k]? = some l) (P : Pu n l) (hn : n < 2 ^ 50) (h0 : 0 < m) (hm : m < 2 ^ 100) :
    Ok (m__law_draw [.cell k, .int m] st) fun d s => ∃ r l', d = .int r ∧ s = st.set k l' ∧ Pu (n + 4) l' ∧ 0 ≤ r ∧ r < m := by
  obtain ⟨a, b, c, e, rfl, ha, hc, hcn⟩ := P
  refine z_fn rfl ?_
  unfold b__law_draw
  bv_omega
  refine u_ixC (lcG_of hk rfl) rfl ?_
  bv_omega
  refine b_dec (fun hp => ?_) (fun hp => ?_)
  · bv_omega
    refine u_ixC (lcG_of hk rfl) rfl ?_
    bv_omega
    refine u_ixC (lcG_of hk rfl) rfl ?_
    bv_omega
    refine ⟨_, 0, lcG_of hk rfl, rfl, ?_⟩
    bv_omega
    exact ⟨_, _, rfl, rfl, ⟨a / m, b, c, e, rfl, Int.ediv_nonneg ha (by omega), hc, by omega⟩, Int.emod_nonneg _ (by omega), Int.emod_lt_of_pos _ h0⟩
  · bv_omega
    have hb := bits_le h0 hm
    have hj : (1 + (Builtin.Int.intBits m : Int) / 28).toNat ≤ 4 := by omega
    refine ⟨_, rfl, inR_t (by omega) (by omega), ?_⟩
    refine (loop_inv (fun i env s => ∃ (c' f : Int) (p : Sl), env = [.val (.cell k), .val (.int m), .un, .val (.int f), p] ∧ s = st.set k [.int a, .int b, .int c', .int e] ∧ c' = c + i ∧ 0 ≤ f) _ 0 _ _
      ⟨c, 0, .un, rfl, (set_self hk).symm, by omega, by omega⟩ ?_ (fun _ _ _ => rfl)).mono ?_
    · rintro i x e0 s hx ⟨c', f, p, rfl, rfl, rfl, hf⟩
      refine ⟨rfl, _, rfl, ?_⟩
      have hi : i < 4 := by
        have := (List.getElem?_eq_some_iff.mp hx).1
        rw [rangeD_len] at this
        omega
      have hk' := set_get (l' := [.int a, .int b, .int (c + ((0 + i : Nat) : Int)), .int e]) hk
      bv_omega
      refine u_ixC (lcG_of hk' rfl) rfl ?_
      bv_omega
      refine ⟨_, 2, lcG_of hk' rfl, rfl, ?_⟩
      rw [List.set_set]
      have hk2 : ∀ y, (st.set k ([D.int a, .int b, .int (c + ((0 + i : Nat) : Int)), .int e].set 2 (.int y)))[k]? = some [D.int a, .int b, .int y, .int e] := fun y => set_get hk
      bv_omega
      refine u_ixC (lcG_of (hk2 _) rfl) rfl ?_
      bv_omega
      refine u_ixC (lcG_of (hk2 _) rfl) rfl ?_
      bv_omega
      refine u_ixC (lcG_of (hk2 _) rfl) rfl ?_
      bv_omega
      refine Ok.use (mixed_ok (by omega) (by omega)) ?_
      bv_omega
      refine ⟨_, .inl rfl, _, _, _, rfl, rfl, by omega, ?_⟩
      have := mixed_pos b (c + ((0 + i : Nat) : Int) + 1) e
      omega
    · rintro o s ⟨e', rfl, c', f, p, rfl, rfl, rfl, hf⟩
      bv_omega
      refine ⟨_, _, rfl, rfl, ⟨a, b, _, e, rfl, ha, by omega, ?_⟩, Int.emod_nonneg _ (by omega), Int.emod_lt_of_pos _ h0⟩
      rw [rangeD_len]
      omega
def Pc (k n : Nat) (st : Sto) : Prop := ∃ l, st[k]? = some l ∧ Pu n l
def Keep (k : Nat) (st s : Sto) : Prop := ∀ (j : Nat) (x : List D), j ≠ k → st[j]? = some x → s[j]? = some x
theorem Keep.refl {k : Nat} {st : Sto} : Keep k st st := fun _ _ _ h => h
theorem Keep.trans {k : Nat} {a b c : Sto} (h : Keep k a b) (h' : Keep k b c) : Keep k a c := fun j x n e => h' j x n (h j x n e)
theorem Keep.app {k : Nat} {st : Sto} {ys : Sto} : Keep k st (st ++ ys) := fun j x _ e => by
  rw [List.getElem?_append_left (List.getElem?_eq_some_iff.mp e).1]
  exact e
theorem Pc.mono {k n m : Nat} {st : Sto} (h : Pc k n st) (hm : n ≤ m) : Pc k m st := by
  obtain ⟨l, e, p⟩ := h
  exact ⟨l, e, p.mono hm⟩
theorem Pc.app {k n : Nat} {st : Sto} {ys : Sto} (h : Pc k n st) : Pc k n (st ++ ys) := by
  obtain ⟨l, e, p⟩ := h
  exact ⟨l, by rw [List.getElem?_append_left (List.getElem?_eq_some_iff.mp e).1]; exact e, p⟩
theorem Pc.lt {k n : Nat} {st : Sto} (h : Pc k n st) : k < st.length := by
  obtain ⟨l, e, p⟩ := h
  exact (List.getElem?_eq_some_iff.mp e).1
theorem Keep.len {k n : Nat} {st s : Sto} (h : Keep k st s) (P : Pc k n s) : st.length ≤ s.length := by
  by_cases hl : st.length ≤ s.length
  · exact hl
  · have hk := P.lt
    have e := h (st.length - 1) st[st.length - 1] (by omega) (List.getElem?_eq_getElem _)
    have := (List.getElem?_eq_some_iff.mp e).1
    omega
theorem drawK {n k : Nat} {st : Sto} {m : Int} (P : Pc k n st) (hn : n < 2 ^ 50) (h0 : 0 < m) (hm : m < 2 ^ 100) {Q : D → Sto → Prop} (h : ∀ r s, Pc k (n + 4) s → Keep k st s → 0 ≤ r → r < m → Q (.int r) s) : Ok (m__law_draw [.cell k, .int m] st) Q := by
  obtain ⟨l, e, p⟩ := P
  refine (draw_ok e p hn h0 hm).mono ?_
  rintro d s ⟨r, l', rfl, rfl, p', h1, h2⟩
  refine h r _ ⟨l', set_get e, p'⟩ (fun j x nj ej => ?_) h1 h2
  rw [List.getElem?_set_ne (fun z => nj z.symm)]
  exact ej
theorem atI_in {xs : List D} {r : Int} (h0 : 0 ≤ r) (h1 : r < xs.length) : ∃ d, atI xs r = some d ∧ xs[r.toNat]? = some d := by
  refine ⟨xs[r.toNat]'(by omega), ?_, List.getElem?_eq_getElem _⟩
  unfold atI ixN
  rw [if_pos h0, if_pos h1]
  exact List.getElem?_eq_getElem (by omega)
theorem oneK {n k : Nat} {st : Sto} {xs : List D} (P : Pc k n st) (hn : n < 2 ^ 50) (h0 : 0 < xs.length) (hm : xs.length < 1000) {Q : D → Sto → Prop} (h : ∀ d s, Pc k (n + 4) s → Keep k st s → d ∈ xs → Q d s) : Ok (m__law_one_of [.cell k, .lst xs] st) Q := by
  refine z_fn rfl ?_
  unfold b__law_one_of
  bv_omega
  refine u_now rfl ?_
  bv_omega
  refine drawK P hn (m := (xs.length : Int)) (by omega) (by omega) fun r s P' K' h1 h2 => ?_
  obtain ⟨d, e, e'⟩ := atI_in h1 h2
  refine u_ixL e ?_
  exact h d s P' K' (List.mem_of_getElem? e')
theorem cutD_map {ns : List Int} {lo hi : Option Int} : cutD (ns.map D.int) lo hi = (cutD ns lo hi).map D.int := by
  unfold cutD
  rw [List.length_map, List.map_take, List.map_drop]
theorem gSum_cut {ns : List Int} {lo hi : Option Int} {st : Sto} : gSum [.lst (cutD (ns.map D.int) lo hi)] st = some (.int (cutD ns lo hi).sum) := by
  have e : lstI st (.lst (cutD (ns.map D.int) lo hi)) = some (cutD ns lo hi) := by
    rw [cutD_map]
    exact intsOf_map _
  unfold gSum
  dsimp only
  rw [e]
theorem purseK {st : Sto} {ns : List Int} {i : Int} {Q : D → Sto → Prop} (h : ∀ l, Pu 0 l → Q (.cell st.length) (st ++ [l])) : Ok (m__law_purse [.fro (ns.map D.int), .int i] st) Q := by
  refine z_fn rfl ?_
  unfold b__law_purse
  bv_omega
  refine u_now rfl ?_
  bv_omega
  refine u_now gSum_cut ?_
  bv_omega
  refine u_pow (by decide +kernel) ?_
  bv_omega
  refine u_now rfl ?_
  bv_omega
  refine u_pow (by decide +kernel) ?_
  bv_omega
  refine u_pow (by decide +kernel) ?_
  refine u_mod (by decide +kernel) ?_
  bv_omega
  refine ⟨by simp, ?_⟩
  refine h _ ⟨_, _, _, _, rfl, Int.emod_nonneg _ (by decide +kernel), by decide, by decide⟩
theorem pursesK {st : Sto} {ns : List Int} {Q : D → Sto → Prop} (h : ∀ (ks : List Nat) s, (∀ k ∈ ks, Pc k 0 s) → ks.Pairwise (· ≠ ·) → Q (.lst (ks.map D.cell)) s) : Ok (m__law_purses [.fro (ns.map D.int), .int 3] st) Q := by
  refine z_fn rfl ?_
  unfold b__law_purses
  bv_omega
  refine u_now rfl ?_
  bv_omega
  refine u_now rfl ?_
  bv_omega
  refine u_now rfl ?_
  bv_omega
  refine ⟨_, rfl, inR_t ?_ ?_, ?_, ?_⟩
  · split <;> split <;> omega
  · split <;> split <;> omega
  · rw [rangeD_len]
    split <;> split <;> omega
  · refine (comp_inv (fun acc s => ∃ ks : List Nat, acc = ks.map D.cell ∧ (∀ k ∈ ks, Pc k 0 s) ∧ ks.Pairwise (· ≠ ·)) _ [] _ ⟨[], rfl, (fun k hk => by cases hk), List.Pairwise.nil⟩ ?_ fun _ _ _ => rfl).mono ?_
    · rintro x hx acc s ⟨ks, rfl, hP, hw⟩
      obtain ⟨i, _, rfl⟩ := List.mem_map.mp hx
      refine ⟨_, rfl, ?_⟩
      bv_omega
      refine b_t rfl ?_
      bv_omega
      refine purseK fun l hl => ?_
      refine ⟨ks ++ [s.length], by rw [List.map_append]; rfl, fun k hk => ?_, List.pairwise_append.mpr ⟨hw, List.pairwise_singleton _ _, fun a ha b hb => ?_⟩⟩
      · rcases List.mem_append.mp hk with hk | hk
        · exact (hP k hk).app
        · cases List.mem_singleton.mp hk
          exact ⟨l, by rw [List.getElem?_append_right (Nat.le_refl _), Nat.sub_self]; rfl, hl⟩
      · cases List.mem_singleton.mp hb
        have := (hP a ha).lt
        omega
    · rintro ys s ⟨ks, e, hP, hw⟩
      cases e
      exact h ks s hP hw
end K64

namespace LW
open PySem L2
theorem comp_z {α : Type} {chk : Sto → Bool} {asg : D → LW.Env → Option LW.Env} {elt : SE} {env0 : LW.Env} {st : Sto} (g h : α → D) (hc : chk st = true) : ∀ (Z : List α), (∀ z ∈ Z, ∃ e1, asg (g z) env0 = some e1 ∧ Ok (elt e1 st) fun y s => y = h z ∧ s = st) → compM chk asg bYes elt env0 (Z.map g) st = some (Z.map h, st)
  | [], _ => by
    show compM chk asg bYes elt env0 [] st = _
    unfold compM
    rw [if_pos hc]
    rfl
  | z :: Z, H => by
    obtain ⟨e1, a, k⟩ := H z (by simp)
    have ih := comp_z g h hc Z fun y hy => H y (by simp [hy])
    show compM chk asg bYes elt env0 (g z :: Z.map g) st = _
    unfold compM
    rw [if_pos hc, a]
    dsimp only
    rw [show bYes e1 st = some (true, st) from rfl]
    dsimp only
    rw [k.eq]
    dsimp only
    rw [ih]
    rfl
/-- a comprehension that lets nothing through -/
theorem comp_none {chk : Sto → Bool} {asg : D → LW.Env → Option LW.Env} {cond : SB} {elt : SE} {env0 : LW.Env} {st : Sto} (hc : chk st = true) (xs : List D) (h : ∀ x ∈ xs, ∃ e1, asg x env0 = some e1 ∧ Ok (cond e1 st) fun b s => b = false ∧ s = st) : compM chk asg cond elt env0 xs st = some ([], st) := by
  have := comp_map (elt := elt) (fun _ => false) id hc xs fun x hx => by
    obtain ⟨e1, a, k⟩ := h x hx
    exact ⟨e1, a, k.eq, fun z => by cases z⟩
  rw [this]
  simp
section
variable {s : Sto} {Q : D → Prop} {x y : D}
theorem u_eqNil {ps : List PyData} (hx : toPy 60 s x = some (.list ps)) (q : Q (.bl (decide (ps = [])))) : Od (oEq x (.lst []) s) Q := by
  refine u_eq hx rfl ?_
  have e : PyData.eqv (.list ps) (.list []) = decide (ps = []) := by
    cases ps with
    | nil => rfl
    | cons p ps => rfl
  rw [e]
  exact q
theorem u_neNil {ps : List PyData} (hx : toPy 60 s x = some (.list ps)) (q : Q (.bl (!decide (ps = [])))) : Od (oNe x (.lst []) s) Q := by
  refine u_ne hx rfl ?_
  have e : PyData.eqv (.list ps) (.list []) = decide (ps = []) := by
    cases ps with
    | nil => rfl
    | cons p ps => rfl
  rw [e]
  exact q
theorem eqv_int {i j : Int} : PyData.eqv (.int i) (.int j) = decide (i = j) := by
  by_cases h : i = j
  · subst h; rw [decide_eq_true rfl]; show (i == i) = true; exact beq_self_eq_true i
  · rw [decide_eq_false h]; show (i == j) = false; exact beq_eq_false_iff_ne.mpr h
theorem eqv_str {a b : Str} : PyData.eqv (.str a) (.str b) = decide (a = b) := by
  by_cases h : a = b
  · subst h; rw [decide_eq_true rfl]; show (a == a) = true; exact beq_self_eq_true a
  · rw [decide_eq_false h]; show (a == b) = false; exact beq_eq_false_iff_ne.mpr h
theorem u_neW {a b : Str} (ha : PyData.strOk a = true) (hb : PyData.strOk b = true) (q : Q (.bl (!decide (a = b)))) : Od (oNe (.str a) (.str b) s) Q := by
  refine u_ne (py_str ha) (py_str hb) ?_
  rw [eqv_str]
  exact q
end
section
variable {chk : Sto → Bool} {asg : D → Env → Option Env} {body : SS} {env e1 : Env} {st : Sto} {x : D} {xs : List D} {Q : Out → Sto → Prop}
theorem z_loopN (c : chk st = true) (h : Q (.nx env) st) : Ok (loopM chk asg body [] env st) Q := ⟨_, st, by unfold loopM; rw [if_pos c], h⟩
theorem z_loopC (c : chk st = true) (a : asg x env = some e1) (h : Ok (body e1 st) fun o s => match o with
    | .nx e2 => Ok (loopM chk asg body xs e2 s) Q
    | .ct e2 => Ok (loopM chk asg body xs e2 s) Q
    | .bk e2 => Q (.nx e2) s
    | .rt d => Q (.rt d) s) : Ok (loopM chk asg body (x :: xs) env st) Q := by
  obtain ⟨o, s, e, h⟩ := h
  cases o with
  | nx e2 =>
    obtain ⟨o2, s2, e3, q⟩ := h
    exact ⟨o2, s2, by unfold loopM; rw [if_pos c, a]; dsimp only; rw [e]; exact e3, q⟩
  | ct e2 =>
    obtain ⟨o2, s2, e3, q⟩ := h
    exact ⟨o2, s2, by unfold loopM; rw [if_pos c, a]; dsimp only; rw [e]; exact e3, q⟩
  | bk e2 => exact ⟨_, s, by unfold loopM; rw [if_pos c, a]; dsimp only; rw [e], h⟩
  | rt d => exact ⟨_, s, by unfold loopM; rw [if_pos c, a]; dsimp only; rw [e], h⟩
end
end LW
namespace K64
open PySem L2 LW
local macro_rules | `(tactic| bv_omega) => `(tactic| (repeat (first | with_reducible first | refine z_var (by with_unfolding_all rfl) ?_ | refine z_pk (by with_unfolding_all rfl) ?_ | refine z_pkO (by with_unfolding_all rfl) ?_ | refine z_retO (by with_unfolding_all rfl) ?_ | refine z_dictO (by with_unfolding_all rfl) ?_ | refine z_c ?_ | refine z_op ?_ | refine z_nil ?_ | refine z_cons ?_ | refine z_tup ?_ | refine z_lst ?_ | refine z_L ?_ | refine z_bi ?_ | refine z_call ?_ | refine z_meth ?_ | refine z_prop ?_ | refine z_fld ?_ | refine z_make ?_ | refine z_not ?_ | refine z_neg ?_ | refine z_bits ?_ | refine t_of ?_ | refine t_not ?_ | refine z_slN ?_ | refine z_oN ?_ | refine z_oS ?_ | refine z_snil ?_ | refine z_seq ?_ | refine z_set ?_ | refine z_own ?_ | refine z_ret ?_ | refine z_retC ?_ | refine z_drop ?_ | refine z_frz ?_ | refine z_app ?_ | refine z_appC ?_ | refine z_putC ?_ | refine z_for ?_ | refine z_lc ?_ | refine z_yes ?_ | refine z_kv ?_ | refine z_ko ?_ | refine z_par ?_ | refine z_unp ?_ | refine z_sfld ?_ | refine z_rg1 ?_ | refine z_rg2 ?_ | refine z_rg3 ?_ | refine z_and ?_ | refine z_or ?_ | refine z_eif ?_ | refine t_and ?_ | refine t_or ?_ | refine z_sif ?_ | refine u_add ?_ | refine u_sub ?_ | refine u_lt ?_ | refine u_le ?_ | refine u_gt ?_ | refine u_ge ?_ | refine u_isN ?_ | refine u_notN ?_ | refine z_par3 ?_ | refine z_dcl ?_ | refine z_cel ?_ | refine z_putDC ?_ | refine z_clrC ?_ | refine z_ownD ?_ | refine z_lenSN ?_ | refine z_D ?_ | refine z_dComp ?_ | refine z_lc2 ?_ | refine z_sn ?_ | refine z_makeC ?_ | refine z_methC ?_ | refine z_fldC ?_ | refine z_sfldC ?_ | refine z_xSet ?_ | refine z_methX ?_ | refine z_methCX ?_ | refine z_xIfE ?_ | refine z_xEL ?_ | refine z_xPar2 (by decide) ?_ | refine z_kD2 ?_ | refine z_par2 (by decide) ?_ | refine z_d0 ?_ | refine z_xBare ?_ | refine z_xFrz ?_ | refine z_xFor ?_ | refine z_sortIt ?_ | refine z_lenO ?_ | refine z_xSeq ?_ | refine z_xIf ?_ | refine z_xRaise ?_ | refine z_xL ?_ | refine z_xNil ?_ | refine z_xDrop ?_ | refine z_xRet ?_ | refine z_eCallX ?_ | refine z_sTry ?_ | refine z_DT ?_ | refine z_t0 ?_ | refine z_Td ?_ | refine z_ownT ?_ | refine z_putT ?_ | refine z_frzT ?_ | refine z_par3T ?_ | refine z_toT ?_ | refine z_join ?_ | refine z_sw3 ?_ | refine z_err ?_ | refine z_err0 ?_ | refine z_errB ?_ | refine z_zipL ?_ | refine z_aStar ?_ | refine z_rgV ?_ | refine z_irgV ?_ | (with_reducible refine u_mul ?_ ?_; next => first | exact mulC_r (by decide) (by decide) | exact mulC_l (by decide) (by decide) | exact mulC_r (by omega) (by omega) | exact mulC_l (by omega) (by omega)) | (with_reducible refine u_mod ?_ ?_; next => first | decide | assumption | omega) | (with_reducible refine u_div ?_ ?_; next => first | exact divC_s (by decide) (by decide) | exact divC_s (by omega) (by omega)))))
abbrev letters : Str := "abcdefghijklmnopqrstuvwxyz"
/-- a name: one to eight letters -/
structure Nm (z : Str) : Prop where
  lo : 1 ≤ z.length
  hi : z.length ≤ 8
  abc : ∀ c ∈ z.cps.toList, c ∈ letters.cps.toList
theorem letter_lt : ∀ c ∈ letters.cps.toList, c < 0x110000 := by decide +kernel
theorem Nm.ok {z : Str} (h : Nm z) : PyData.strOk z = true := by
  unfold PyData.strOk
  rw [← Array.all_toList, List.all_eq_true]
  intro c hc
  exact decide_eq_true (letter_lt c (h.abc c hc))
theorem whole_ok {i : Int} {st : Sto} : m_is_whole [.int i] st = some (.bl true, st) := rfl
theorem name_ok {z : Str} {st : Sto} (h : Nm z) : m_is_name [.str z] st = some (.bl true, st) := by
  have h1 := h.lo
  have h2 := h.hi
  refine Ok.eq (z_fn rfl ?_)
  unfold b_is_name
  bv_omega
  refine u_now rfl ?_
  refine b_f rfl ?_
  bv_omega
  refine u_now (a := .int z.length) (by unfold gLen; exact if_pos (by omega)) ?_
  bv_omega
  refine b_f (decide_eq_false (by omega)) ?_
  bv_omega
  refine u_now (a := .int z.length) (by unfold gLen; exact if_pos (by omega)) ?_
  bv_omega
  refine b_f (decide_eq_false (by omega)) ?_
  bv_omega
  refine z_sgn ?_
  bv_omega
  refine ⟨z, rfl, ?_, ?_⟩
  · show (signsD z).length ≤ 1000000
    unfold signsD
    rw [List.length_map]
    have : z.cps.toList.length = z.length := Array.length_toList
    omega
  · refine Ok.use (comp_none rfl _ fun x hx => ?_) ?_
    · obtain ⟨c, hc, rfl⟩ := List.mem_map.mp hx
      refine ⟨_, rfl, ?_⟩
      bv_omega
      refine u_now (a := .bl (!decide (c ∈ letters.cps.toList))) rfl ?_
      rw [decide_eq_true (h.abc c hc)]
      exact ⟨rfl, rfl⟩
    · bv_omega
      refine ⟨by decide, ?_⟩
      refine u_eqNil (ps := []) rfl ?_
      exact ⟨rfl, rfl⟩
theorem sto_app {st ys : Sto} {k : Nat} {x : List D} (e : st[k]? = some x) : (st ++ ys)[k]? = some x := by
  rw [List.getElem?_append_left (List.getElem?_eq_some_iff.mp e).1]
  exact e
/-! ### hours -/
abbrev hrD (zs : List Str) (h : Str → Int) : D := .dic (zs.map Sum.inr) (zs.map fun z => D.int (h z))
theorem get_hr {h : Str → Int} {n : Str} : ∀ {zs : List Str}, n ∈ zs → getD (zs.map Sum.inr) (zs.map fun z => D.int (h z)) (Sum.inr n) = some (.int (h n))
  | [], hn => by cases hn
  | z :: zs, hn => by
    rw [List.map_cons, List.map_cons]
    unfold getD
    by_cases e : z = n
    · rw [if_pos (by rw [e]), e]
    · rw [if_neg fun q => e (Sum.inr.inj q)]
      rcases List.mem_cons.mp hn with q | q
      · exact absurd q.symm e
      · exact get_hr q
theorem dx_hr {zs : List Str} {h : Str → Int} {n : Str} (hn : n ∈ zs) (s : Sto) : oDx (hrD zs h) (.str n) s = some (.int (h n)) := get_hr hn
theorem keys_hr {zs : List Str} : (zs.map Sum.inr).map keyV = zs.map D.str := by
  rw [List.map_map]
  rfl
abbrev hrK (zs : List Str) (h : Str → Int) : DK := (zs.map Sum.inr, zs.map fun z => D.int (h z))
/-- hours as data or in a cell -/
inductive Hr (st : Sto) : D → List Str → (Str → Int) → Prop
  | d (zs : List Str) (h : Str → Int) : Hr st (hrD zs h) zs h
  | c {k : Nat} {zs : List Str} {h : Str → Int} (e : st[k]? = some (unC (hrK zs h))) : Hr st (.dcl k) zs h
theorem Hr.g {st : Sto} {H : D} {zs : List Str} {h : Str → Int} (r : Hr st H zs h) : dicG st H = some (hrK zs h) := by
  cases r with
  | d zs h => rfl
  | c e => exact dcG_of e
theorem Hr.dx {st : Sto} {H : D} {zs : List Str} {h : Str → Int} {n : Str} (r : Hr st H zs h) (hn : n ∈ zs) : oDx H (.str n) st = some (.int (h n)) := by
  unfold oDx
  rw [r.g]
  exact get_hr hn
theorem Hr.has {st : Sto} {H : D} {zs : List Str} {h : Str → Int} {n : Str} (r : Hr st H zs h) : oInK true (.str n) H st = some (.bl (!decide (n ∈ zs))) := by
  unfold oInK
  rw [r.g]
  show some (D.bl (!decide ((Sum.inr n : Key) ∈ zs.map Sum.inr))) = _
  have : decide ((Sum.inr n : Key) ∈ zs.map Sum.inr) = decide (n ∈ zs) := decide_eq_decide.mpr ⟨fun h => by
    obtain ⟨m, hm, e⟩ := List.mem_map.mp h
    exact Sum.inr.inj e ▸ hm, fun h => List.mem_map.mpr ⟨n, h, rfl⟩⟩
  rw [this]
theorem Hr.app {st ys : Sto} {H : D} {zs : List Str} {h : Str → Int} (r : Hr st H zs h) : Hr (st ++ ys) H zs h := by
  cases r with
  | d zs h => exact .d zs h
  | c e => exact .c (sto_app e)
theorem Hr.isD {st : Sto} {H : D} {zs : List Str} {h : Str → Int} (r : Hr st H zs h) : gIsi CS [H, .ty "dict"] st = some (.bl true) := by
  cases r with
  | d zs h => rfl
  | @c k zs h e =>
    show (match ty7 st (.dcl k) with | some t => some (D.bl (isi7 t .dic)) | none => _) = _
    have : ty7 st (.dcl k) = some .dic := by
      unfold ty7 isDcl
      dsimp only
      rw [dcG_of e]
      rfl
    rw [this]
    rfl
theorem py_strs {n : Nat} {s : Sto} : ∀ {zs : List Str}, (∀ z ∈ zs, PyData.strOk z = true) → mapO (toPy (n + 1) s) (zs.map D.str) = some (zs.map PyData.str)
  | [], _ => rfl
  | z :: zs, h => by
    rw [List.map_cons]
    unfold mapO
    rw [py_str (h z (by simp))]
    dsimp only
    rw [py_strs fun y hy => h y (by simp [hy])]
    rfl
theorem py_lstS {s : Sto} {zs : List Str} (h : ∀ z ∈ zs, PyData.strOk z = true) {n : Nat} : toPy (n + 2) s (.lst (zs.map D.str)) = some (.list (zs.map PyData.str)) := by
  unfold toPy
  dsimp only
  rw [py_strs h]
end K64

namespace LW
open PySem L2
theorem ofS_inj (a b : String) : (Str.ofString a = Str.ofString b) = (a = b) := by
  refine propext ⟨fun h => ?_, fun h => by rw [h]⟩
  rw [Str.ofString_eq_toList, Str.ofString_eq_toList] at h
  have h1 : (a.toList.map Char.toNat).toArray = (b.toList.map Char.toNat).toArray := congrArg Str.cps h
  have h2 : a.toList.map Char.toNat = b.toList.map Char.toNat := by simpa using h1
  have h3 : ∀ (xs ys : List Char), xs.map Char.toNat = ys.map Char.toNat → xs = ys := fun xs => by
    induction xs with
    | nil => intro ys e; cases ys with
      | nil => rfl
      | cons _ _ => cases e
    | cons x xs ih => intro ys e; cases ys with
      | nil => cases e
      | cons y ys =>
        rw [List.map_cons, List.map_cons] at e
        injection e with e1 e2
        rw [ih ys e2, Char.toNat_inj.mp e1]
  exact String.toList_inj.mp (h3 _ _ h2)
example : (Str.ofString "abc" = Str.ofString "de") = False := by simp [ofS_inj]
section
variable {s : Sto} {xs ys : List D} {i j : Int}
theorem g_lst : lstR s (.lst xs) = some xs := rfl
theorem g_eqN : oEqN (.lst xs) (.lst []) s = some (.bl xs.isEmpty) := rfl
theorem g_addI : oAdd (.int i) (.int j) s = some (.int (i + j)) := rfl
theorem g_cat (h : xs.length + ys.length ≤ 1000000) : oCat (.lst xs) (.lst ys) s = some (xs ++ ys) := if_pos h
theorem g_addL (h : xs.length + ys.length ≤ 1000000) : oAdd (.lst xs) (.lst ys) s = some (.lst (xs ++ ys)) := by
  simp [orO, iOp, oCatS, asL, g_cat h]
theorem g_subI : oSub (.int i) (.int j) s = some (.int (i - j)) := rfl
theorem g_ixL : oIx (.lst xs) (.int i) s = atI xs i := rfl
theorem g_ixT : oIx (.tup xs) (.int i) s = atI xs i := rfl
theorem g_lt : oLt (.int i) (.int j) s = some (.bl (decide (i < j))) := rfl
theorem g_le : oLe (.int i) (.int j) s = some (.bl (decide (i ≤ j))) := rfl
theorem g_gt : oGt (.int i) (.int j) s = some (.bl (decide (j < i))) := rfl
theorem g_ge : oGe (.int i) (.int j) s = some (.bl (decide (j ≤ i))) := rfl
end
theorem comp2_all {α : Type} {chk : Sto → Bool} {asg asg2 : D → Env → Option Env} {fi2 : Fx Src} {cond2 : SB} {elt : SE} {vs2 : List Nat} {env0 : Env} {st : Sto} (g : α → D) (out : α → List D) (hc : chk st = true) : ∀ (Z : List α),
    (∀ z ∈ Z, ∃ e1, asg (g z) env0 = some e1 ∧ Ok (fi2 e1 st) fun src s => s = st ∧ compM src.2 asg2 cond2 elt (wipeE e1 vs2) src.1 st = some (out z, st)) → comp2M chk asg bYes fi2 asg2 cond2 elt vs2 env0 (Z.map g) st = some (Z.flatMap out, st)
  | [], _ => by
    show comp2M chk asg bYes fi2 asg2 cond2 elt vs2 env0 [] st = _
    unfold comp2M
    rw [if_pos hc]
    rfl
  | z :: Z, H => by
    obtain ⟨e1, a, src, s, ef, rfl, ec⟩ := H z (by simp)
    have ih := comp2_all g out hc Z fun y hy => H y (by simp [hy])
    show comp2M chk asg bYes fi2 asg2 cond2 elt vs2 env0 (g z :: Z.map g) s = _
    unfold comp2M
    rw [if_pos hc, a]
    dsimp only
    rw [show bYes e1 s = some (true, s) from rfl]
    dsimp only
    rw [ef]
    dsimp only
    rw [ec]
    dsimp only
    rw [ih]
    rfl
theorem comp_zf {α : Type} {chk : Sto → Bool} {asg : D → LW.Env → Option LW.Env} {cond : SB} {elt : SE} {env0 : LW.Env} {st : Sto} (g h : α → D) (p : α → Bool) (hc : chk st = true) : ∀ (Z : List α), (∀ z ∈ Z, ∃ e1, asg (g z) env0 = some e1 ∧ Ok (cond e1 st) (fun b s => b = p z ∧ s = st) ∧ (p z = true → Ok (elt e1 st) fun y s => y = h z ∧ s = st)) → compM chk asg cond elt env0 (Z.map g) st = some ((Z.filter p).map h, st)
  | [], _ => by
    show compM chk asg cond elt env0 [] st = _
    unfold compM
    rw [if_pos hc]
    rfl
  | z :: Z, H => by
    obtain ⟨e1, a, c, k⟩ := H z (by simp)
    have ih := comp_zf g h p hc Z fun y hy => H y (by simp [hy])
    show compM chk asg cond elt env0 (g z :: Z.map g) st = _
    unfold compM
    rw [if_pos hc, a]
    dsimp only
    rw [c.eq]
    cases hp : p z with
    | false =>
      dsimp only
      rw [ih, List.filter_cons_of_neg (by simp [hp])]
    | true =>
      dsimp only
      rw [(k hp).eq]
      dsimp only
      rw [ih, List.filter_cons_of_pos hp]
      rfl
theorem lstS_map {st : Sto} {zs : List Str} : lstS st (.lst (zs.map D.str)) = some zs := strsOf_map zs
theorem u_addS {s : Sto} {a b : Str} {Q : D → Prop} (hl : a.length + b.length ≤ 1000000) (q : Q (.str (a ++ b))) : Od (oAdd (.str a) (.str b) s) Q := by
  refine u_now ?_ q
  have e : oCatS (.str a) (.str b) s = some (.str (a ++ b)) := by unfold oCatS; exact if_pos hl
  show orO oCatS _ _ _ _ = _
  unfold orO
  rw [e]
end LW
namespace K64
open PySem L2 LW
local macro_rules | `(tactic| bv_omega) => `(tactic| (repeat (first | with_reducible first | refine z_var (by with_unfolding_all rfl) ?_ | refine z_pk (by with_unfolding_all rfl) ?_ | refine z_pkO (by with_unfolding_all rfl) ?_ | refine z_retO (by with_unfolding_all rfl) ?_ | refine z_dictO (by with_unfolding_all rfl) ?_ | refine z_c ?_ | refine z_op ?_ | refine z_nil ?_ | refine z_cons ?_ | refine z_tup ?_ | refine z_lst ?_ | refine z_L ?_ | refine z_bi ?_ | refine z_call ?_ | refine z_meth ?_ | refine z_prop ?_ | refine z_fld ?_ | refine z_make ?_ | refine z_not ?_ | refine z_neg ?_ | refine z_bits ?_ | refine t_of ?_ | refine t_not ?_ | refine z_slN ?_ | refine z_oN ?_ | refine z_oS ?_ | refine z_snil ?_ | refine z_seq ?_ | refine z_set ?_ | refine z_own ?_ | refine z_ret ?_ | refine z_retC ?_ | refine z_drop ?_ | refine z_frz ?_ | refine z_app ?_ | refine z_appC ?_ | refine z_putC ?_ | refine z_for ?_ | refine z_lc ?_ | refine z_yes ?_ | refine z_kv ?_ | refine z_ko ?_ | refine z_par ?_ | refine z_unp ?_ | refine z_sfld ?_ | refine z_rg1 ?_ | refine z_rg2 ?_ | refine z_rg3 ?_ | refine z_and ?_ | refine z_or ?_ | refine z_eif ?_ | refine t_and ?_ | refine t_or ?_ | refine z_sif ?_ | refine u_add ?_ | refine u_sub ?_ | refine u_lt ?_ | refine u_le ?_ | refine u_gt ?_ | refine u_ge ?_ | refine u_isN ?_ | refine u_notN ?_ | refine z_par3 ?_ | refine z_dcl ?_ | refine z_cel ?_ | refine z_putDC ?_ | refine z_clrC ?_ | refine z_ownD ?_ | refine z_lenSN ?_ | refine z_D ?_ | refine z_dComp ?_ | refine z_lc2 ?_ | refine z_sn ?_ | refine z_makeC ?_ | refine z_methC ?_ | refine z_fldC ?_ | refine z_sfldC ?_ | refine z_xSet ?_ | refine z_methX ?_ | refine z_methCX ?_ | refine z_xIfE ?_ | refine z_xEL ?_ | refine z_xPar2 (by decide) ?_ | refine z_kD2 ?_ | refine z_par2 (by decide) ?_ | refine z_d0 ?_ | refine z_xBare ?_ | refine z_xFrz ?_ | refine z_xFor ?_ | refine z_sortIt ?_ | refine z_lenO ?_ | refine z_xSeq ?_ | refine z_xIf ?_ | refine z_xRaise ?_ | refine z_xL ?_ | refine z_xNil ?_ | refine z_xDrop ?_ | refine z_xRet ?_ | refine z_eCallX ?_ | refine z_sTry ?_ | refine z_DT ?_ | refine z_t0 ?_ | refine z_Td ?_ | refine z_ownT ?_ | refine z_putT ?_ | refine z_frzT ?_ | refine z_par3T ?_ | refine z_toT ?_ | refine z_join ?_ | refine z_sw3 ?_ | refine z_err ?_ | refine z_err0 ?_ | refine z_errB ?_ | refine z_zipL ?_ | refine z_aStar ?_ | refine z_rgV ?_ | refine z_irgV ?_ | (with_reducible refine u_mul ?_ ?_; next => first | exact mulC_r (by decide) (by decide) | exact mulC_l (by decide) (by decide) | exact mulC_r (by omega) (by omega) | exact mulC_l (by omega) (by omega)) | (with_reducible refine u_mod ?_ ?_; next => first | decide | assumption | omega) | (with_reducible refine u_div ?_ ?_; next => first | exact divC_s (by decide) (by decide) | exact divC_s (by omega) (by omega)))))
theorem u_addL {s : Sto} {x y : D} {xs ys : List D} {Q : D → Prop} (hx : lstM s x = some xs) (hy : lstM s y = some ys) (hl : xs.length + ys.length ≤ 1000000) (q : Q (.lst (xs ++ ys))) : Od (oAdd x y s) Q := by
  refine ⟨_, ?_, q⟩
  have e : asL oCat x y s = some (.lst (xs ++ ys)) := by
    unfold asL oCat
    rw [hx, hy]
    dsimp only
    rw [if_pos hl]
  have e1 : oAdd x y s = (orO (asL oCat) oCatT) x y s := by
    cases x with
    | lst _ => rfl
    | cell _ => rfl
    | _ => cases hx
  rw [e1]
  unfold orO
  rw [e]
theorem put_new {zs : List Str} {f : Str → D} {z : Str} {d : D} (hz : z ∉ zs) : putKD (zs.map Sum.inr, zs.map f) (Sum.inr z) d = (zs.map Sum.inr ++ [Sum.inr z], zs.map f ++ [d]) := by
  unfold putKD
  rw [if_neg]
  intro q
  obtain ⟨y, hy, e⟩ := List.mem_map.mp q
  exact hz (Sum.inr.inj e ▸ hy)
theorem merge_hr {f : Str → D} : ∀ (rest done : List Str), (done ++ rest).Nodup → mergeD (done.map Sum.inr, done.map f) (rest.map fun z => ((Sum.inr z : Key), f z)) = ((done ++ rest).map Sum.inr, (done ++ rest).map f)
  | [], done, _ => by
    rw [List.append_nil]
    rfl
  | z :: rest, done, h => by
    have hz : z ∉ done := fun q => by
      have := (List.nodup_append.mp h).2.2 z q z (by simp)
      exact this rfl
    show mergeD (putKD (done.map Sum.inr, done.map f) (Sum.inr z) (f z)) (rest.map fun z => ((Sum.inr z : Key), f z)) = _
    rw [put_new hz]
    have := merge_hr (f := f) rest (done ++ [z]) (by rw [List.append_assoc]; exact h)
    rw [List.map_append, List.map_append, List.append_assoc] at this
    exact this
theorem pairs_f {f : Str → D} : ∀ (zs : List Str), pairsOf (zs.map fun z => D.tup [.str z, f z]) = some (zs.map fun z => ((Sum.inr z : Key), f z))
  | [] => rfl
  | z :: zs => by
    rw [List.map_cons]
    unfold pairsOf
    rw [pairs_f zs]
    rfl
theorem u_dictF {f : Str → D} {zs : List Str} {s : Sto} {Q : DK → Prop} (nd : zs.Nodup) (q : Q (zs.map Sum.inr, zs.map f)) : Od (gDictP [.lst (zs.map fun z => D.tup [.str z, f z])] s) Q := by
  refine u_now ?_ q
  unfold gDictP
  show (match pairsOf (zs.map fun z => D.tup [.str z, f z]) with | some l => some (mergeD ([], []) l) | none => none) = _
  rw [pairs_f]
  exact congrArg some (merge_hr (f := f) zs [] (by simpa using nd))
theorem ix_nat {n i : Nat} {j : Int} (e : j = i) (h : i < n) : ixN n j = some i := by
  subst e
  unfold ixN
  rw [if_pos (by omega), if_pos (by omega), Int.toNat_natCast]
/-! ### words -/
theorem letters_len : letters.cps.toList.length = 26 := by decide +kernel
theorem ix_letter {r : Int} {s : Sto} (h0 : 0 ≤ r) (h1 : r < 26) : ∃ ch, ch ∈ letters.cps.toList ∧ oIx (.str letters) (.int r) s = some (.str ⟨#[ch]⟩) := by
  have hl : r.toNat < letters.cps.toList.length := by rw [letters_len]; omega
  refine ⟨letters.cps.toList[r.toNat], List.getElem_mem hl, ?_⟩
  have e : atI letters.cps.toList r = some letters.cps.toList[r.toNat] := by
    unfold atI
    rw [ix_nat (i := r.toNat) (by omega) hl]
    exact List.getElem?_eq_getElem hl
  show (if letters.length ≤ 1000000 then (match atI letters.cps.toList r with | some ch => some (D.str ⟨#[ch]⟩) | none => none) else none) = _
  rw [if_pos (by decide +kernel), e]
structure Wo (i : Nat) (z : Str) : Prop where
  len : z.length = i
  abc : ∀ c ∈ z.cps.toList, c ∈ letters.cps.toList
theorem Wo.snoc {i : Nat} {z : Str} {ch : Nat} (h : Wo i z) (hc : ch ∈ letters.cps.toList) : Wo (i + 1) (z ++ ⟨#[ch]⟩) where
  len := by
    have := h.len
    show (z.cps ++ #[ch]).size = _
    rw [Array.size_append]
    show z.cps.size + 1 = _
    have : z.cps.size = i := this
    omega
  abc := fun c hm => by
    have : c ∈ (z.cps ++ #[ch]).toList := hm
    rw [Array.toList_append] at this
    rcases List.mem_append.mp this with q | q
    · exact h.abc c q
    · rw [List.mem_singleton.mp q]; exact hc
theorem wordK {n k : Nat} {st : Sto} (P : Pc k n st) (hn : n < 2 ^ 45) {Q : D → Sto → Prop} (h : ∀ z s, Pc k (n + 40) s → Keep k st s → Nm z → Q (.str z) s) : Ok (m__law_word [.cell k] st) Q := by
  refine z_fn rfl ?_
  unfold b__law_word
  bv_omega
  refine drawK P (by omega) (m := 8) (by decide) (by decide) fun r s1 P1 K1 r0 r1 => ?_
  bv_omega
  refine ⟨_, rfl, inR_t (by omega) (by omega), ?_⟩
  refine (loop_inv (fun i env s => ∃ z p2, env = [.val (.cell k), .val (.str z), p2] ∧ Wo i z ∧ Pc k (n + 4 + 4 * i) s ∧ Keep k st s) _ 0 _ _ ⟨"", _, rfl, ⟨rfl, fun c hc => by cases hc⟩, P1, K1⟩ ?_ (fun _ _ _ => rfl)).mono ?_
  · rintro i x e s hx ⟨z, p2, rfl, W, P2, K2⟩
    have hi : i < 8 := by
      have := (List.getElem?_eq_some_iff.mp hx).1
      rw [rangeD_len] at this
      omega
    have wl := W.len
    rw [Nat.zero_add] at P2 wl W
    refine ⟨rfl, _, rfl, ?_⟩
    bv_omega
    refine drawK P2 (by omega) (m := 26) (by decide) (by decide) fun r2 s2 P3 K3 q0 q1 => ?_
    obtain ⟨ch, hc, ec⟩ := ix_letter (s := s2) q0 q1
    refine u_now ec ?_
    refine u_addS (by show z.length + 1 ≤ _; omega) ?_
    refine ⟨_, .inl rfl, _, _, rfl, ?_, ?_, K2.trans K3⟩
    · rw [Nat.zero_add]; exact W.snoc hc
    · rw [Nat.zero_add]; exact P3.mono (by omega)
  · rintro o s ⟨e, rfl, z, p2, rfl, W, P2, K2⟩
    rw [rangeD_len, Nat.zero_add] at P2 W
    have wl := W.len
    bv_omega
    exact h z s (P2.mono (by omega)) K2 ⟨by omega, by omega, W.abc⟩
/-! ### shuffled -/
theorem shuffleK {n k : Nat} {st : Sto} {zs : List Str} (P : Pc k n st) (hn : n < 2 ^ 45) (hl : zs.length < 100) {Q : D → Sto → Prop} (h : ∀ (ys : List Str) s, Pc k (n + 400) s → Keep k st s → ys.Perm zs → Q (.lst (ys.map D.str)) s) : Ok (m__law_shuffled [.cell k, .lst (zs.map D.str)] st) Q := by
  refine z_fn rfl ?_
  unfold b__law_shuffled
  bv_omega
  refine ⟨by simp, ?_⟩
  bv_omega
  refine z_seqI ?_
  bv_omega
  refine ⟨_, .inl rfl, ?_⟩
  refine (loop_inv (fun i env s => ∃ (ys : List Str) (p3 : Sl), env = [.val (.cell k), .val (.lst (zs.map D.str)), .own (ys.map D.str), p3] ∧ ys.Perm (zs.take i) ∧ Pc k (n + 4 * i) s ∧ Keep k st s) _ 0 _ _ ⟨[], _, rfl, List.Perm.refl _, P, Keep.refl⟩ ?_ (fun _ _ _ => rfl)).mono ?_
  · rintro i x e s hx ⟨ys, p3, rfl, pm, P2, K2⟩
    rw [Nat.zero_add] at P2 pm
    rw [List.getElem?_map] at hx
    obtain ⟨z, hz, rfl⟩ := Option.map_eq_some_iff.mp hx
    have hi : i < zs.length := (List.getElem?_eq_some_iff.mp hz).1
    have yl : ys.length = i := by rw [pm.length_eq, List.length_take]; omega
    refine ⟨rfl, _, rfl, ?_⟩
    refine z_ins ?_
    bv_omega
    refine u_now rfl ?_
    bv_omega
    rw [List.length_map]
    refine drawK P2 (by omega) (m := (ys.length : Int) + 1) (by omega) (by omega) fun r s2 P3 K3 q0 q1 => ?_
    bv_omega
    refine ⟨_, rfl, ⟨by rw [List.length_map]; omega, q0, by omega⟩, ?_⟩
    refine ⟨_, .inl rfl, ys.take r.toNat ++ [z] ++ ys.drop r.toNat, .val (.str z), ?_, ?_, ?_, K2.trans K3⟩
    · rw [List.map_append, List.map_append, List.map_take, List.map_drop]
      rfl
    · rw [Nat.zero_add, List.take_add_one, hz]
      have p1 : (ys.take r.toNat ++ [z] ++ ys.drop r.toNat).Perm (ys ++ [z]) := by
        have : (ys.take r.toNat ++ [z] ++ ys.drop r.toNat).Perm (ys.take r.toNat ++ ys.drop r.toNat ++ [z]) := by
          rw [List.append_assoc, List.append_assoc]
          exact List.Perm.append_left _ List.perm_append_comm
        rwa [List.take_append_drop] at this
      exact p1.trans (pm.append_right _)
    · rw [Nat.zero_add]; exact P3.mono (by omega)
  · rintro o s ⟨e, rfl, ys, p3, rfl, pm, P2, K2⟩
    rw [List.length_map, Nat.zero_add] at P2 pm
    rw [List.take_length] at pm
    bv_omega
    exact h ys s (P2.mono (by omega)) K2 pm
/-! ### names -/
abbrev eight : List Str := ["ann", "a", "ab", "b", "first", "of", "end", "zzzzzzzz"]
theorem eight_nm : ∀ z ∈ eight, Nm z := by
  intro z hz
  have : (1 ≤ z.length ∧ z.length ≤ 8) ∧ ∀ c ∈ z.cps.toList, c ∈ letters.cps.toList := by
    revert z
    decide +kernel
  exact ⟨this.1.1, this.1.2, this.2⟩
theorem eight_nd : eight.Nodup := by decide +kernel
theorem cutD_strs {zs : List Str} {lo hi : Option Int} : cutD (zs.map D.str) lo hi = (cutD zs lo hi).map D.str := by
  unfold cutD
  rw [List.length_map, List.map_take, List.map_drop]
theorem cut_take {α : Type} {zs : List α} {m : Nat} : cutD zs none (some (m : Int)) = zs.take m := by
  unfold cutD
  rw [HT.sIx_nat]
  show List.take (min m zs.length - 0) (List.drop 0 zs) = _
  rw [List.drop_zero, Nat.sub_zero]
  by_cases h : m ≤ zs.length
  · rw [Nat.min_eq_left h]
  · rw [Nat.min_eq_right (by omega), List.take_of_length_le (Nat.le_refl _), List.take_of_length_le (by omega)]
structure Nms (A : List Str) : Prop where
  nm : ∀ z ∈ A, Nm z
  nd : A.Nodup
  lo : 1 ≤ A.length
  hi : A.length ≤ 8
theorem any_str {p : Str} : ∀ (l : List Str), ((l.map PyData.str).any fun z => PyData.eqv z (.str p)) = decide (p ∈ l)
  | [] => rfl
  | q :: l => by
    rw [List.map_cons, List.any_cons, any_str l, eqv_str]
    by_cases e : q = p
    · subst e; simp
    · have e2 : ¬ p = q := fun z => e z.symm
      simp [e, e2]
theorem u_ninS {s : Sto} {p : Str} {l : List Str} {Q : D → Prop} (hp : PyData.strOk p = true) (hl : ∀ q ∈ l, PyData.strOk q = true) (q : Q (.bl (!decide (p ∈ l)))) : Od (oInL true (.str p) (.lst (l.map D.str)) s) Q := by
  refine u_now ?_ q
  unfold oInL
  rw [py_str hp, py_lstS hl]
  dsimp only
  rw [any_str, if_pos rfl]
theorem namesK {n k m : Nat} {st : Sto} (P : Pc k n st) (hn : n < 2 ^ 44) (h1 : 1 ≤ m) (hm : m ≤ 8) {Q : D → Sto → Prop} (h : ∀ (A : List Str) s, Pc k (n + 500) s → Keep k st s → Nms A → A.length = m → Q (.lst (A.map D.str)) s) : Ok (m__law_names [.cell k, .int m] st) Q := by
  refine z_fn rfl ?_
  unfold b__law_names
  bv_omega
  refine ⟨by simp, ?_⟩
  bv_omega
  refine wordK P (by omega) fun z s1 P1 K1 hz => ?_
  bv_omega
  refine ⟨by simp, _, _, rfl, rfl, ?_⟩
  bv_omega
  refine z_seqI ?_
  bv_omega
  refine ⟨by simp, _, .inl rfl, by simp, ?_⟩
  refine Ok.use (comp_zf D.str D.str (fun q => !decide (q ∈ eight)) rfl [z] fun q hq => ?_) ?_
  · rw [List.mem_singleton.mp hq]
    refine ⟨_, rfl, ?_, fun _ => ?_⟩
    · bv_omega
      refine u_ninS (l := eight) hz.ok (fun y hy => (eight_nm y hy).ok) ?_
      exact ⟨rfl, rfl⟩
    · bv_omega
      exact ⟨rfl, rfl⟩
  · bv_omega
    have fl := List.length_filter_le (fun q => !decide (q ∈ eight)) [z]
    rw [List.length_singleton] at fl
    refine u_addL (xs := eight.map D.str) rfl rfl (by rw [List.length_map, List.length_map]; show 8 + _ ≤ _; omega) ?_
    rw [← List.map_append]
    bv_omega
    refine shuffleK (zs := eight ++ [z].filter fun q => !decide (q ∈ eight)) P1 (by omega) (by rw [List.length_append]; show 8 + _ < _; omega) fun ys s2 P2 K2 pm => ?_
    bv_omega
    refine u_now (a := (ys.take m).map D.str) ?_ ?_
    · unfold slL
      show some (cutD (ys.map D.str) none (some (m : Int))) = _
      rw [cutD_strs, cut_take]
    · have nd : (eight ++ [z].filter fun q => !decide (q ∈ eight)).Nodup := by
        refine List.nodup_append.mpr ⟨eight_nd, (show [z].Nodup by simp).filter _, fun a ha b hb e => ?_⟩
        subst e
        have := (List.mem_filter.mp hb).2
        rw [decide_eq_true ha] at this
        cases this
      have yl : 8 ≤ ys.length := by rw [pm.length_eq, List.length_append]; show 8 ≤ 8 + _; omega
      refine h (ys.take m) s2 (P2.mono (by omega)) (K1.trans K2) ⟨fun y hy => ?_, (pm.nodup_iff.mpr nd).sublist (List.take_sublist _ _), by rw [List.length_take]; omega, by rw [List.length_take]; omega⟩ (by rw [List.length_take]; omega)
      have hy' := pm.mem_iff.mp (List.mem_of_mem_take hy)
      rcases List.mem_append.mp hy' with q | q
      · exact eight_nm y q
      · rw [List.mem_singleton.mp (List.mem_filter.mp q).1]; exact hz
end K64

namespace K64
open PySem L2 LW
local macro_rules | `(tactic| bv_omega) => `(tactic| (repeat (first | with_reducible first | refine z_var (by with_unfolding_all rfl) ?_ | refine z_pk (by with_unfolding_all rfl) ?_ | refine z_pkO (by with_unfolding_all rfl) ?_ | refine z_retO (by with_unfolding_all rfl) ?_ | refine z_dictO (by with_unfolding_all rfl) ?_ | refine z_c ?_ | refine z_op ?_ | refine z_nil ?_ | refine z_cons ?_ | refine z_tup ?_ | refine z_lst ?_ | refine z_L ?_ | refine z_bi ?_ | refine z_call ?_ | refine z_meth ?_ | refine z_prop ?_ | refine z_fld ?_ | refine z_make ?_ | refine z_not ?_ | refine z_neg ?_ | refine z_bits ?_ | refine t_of ?_ | refine t_not ?_ | refine z_slN ?_ | refine z_oN ?_ | refine z_oS ?_ | refine z_snil ?_ | refine z_seq ?_ | refine z_set ?_ | refine z_own ?_ | refine z_ret ?_ | refine z_retC ?_ | refine z_drop ?_ | refine z_frz ?_ | refine z_app ?_ | refine z_appC ?_ | refine z_putC ?_ | refine z_for ?_ | refine z_lc ?_ | refine z_yes ?_ | refine z_kv ?_ | refine z_ko ?_ | refine z_par ?_ | refine z_unp ?_ | refine z_sfld ?_ | refine z_rg1 ?_ | refine z_rg2 ?_ | refine z_rg3 ?_ | refine z_and ?_ | refine z_or ?_ | refine z_eif ?_ | refine t_and ?_ | refine t_or ?_ | refine z_sif ?_ | refine u_add ?_ | refine u_sub ?_ | refine u_lt ?_ | refine u_le ?_ | refine u_gt ?_ | refine u_ge ?_ | refine u_isN ?_ | refine u_notN ?_ | refine z_par3 ?_ | refine z_dcl ?_ | refine z_cel ?_ | refine z_putDC ?_ | refine z_clrC ?_ | refine z_ownD ?_ | refine z_lenSN ?_ | refine z_D ?_ | refine z_dComp ?_ | refine z_lc2 ?_ | refine z_sn ?_ | refine z_makeC ?_ | refine z_methC ?_ | refine z_fldC ?_ | refine z_sfldC ?_ | refine z_xSet ?_ | refine z_methX ?_ | refine z_methCX ?_ | refine z_xIfE ?_ | refine z_xEL ?_ | refine z_xPar2 (by decide) ?_ | refine z_kD2 ?_ | refine z_par2 (by decide) ?_ | refine z_d0 ?_ | refine z_xBare ?_ | refine z_xFrz ?_ | refine z_xFor ?_ | refine z_sortIt ?_ | refine z_lenO ?_ | refine z_xSeq ?_ | refine z_xIf ?_ | refine z_xRaise ?_ | refine z_xL ?_ | refine z_xNil ?_ | refine z_xDrop ?_ | refine z_xRet ?_ | refine z_eCallX ?_ | refine z_sTry ?_ | refine z_DT ?_ | refine z_t0 ?_ | refine z_Td ?_ | refine z_ownT ?_ | refine z_putT ?_ | refine z_frzT ?_ | refine z_par3T ?_ | refine z_toT ?_ | refine z_join ?_ | refine z_sw3 ?_ | refine z_err ?_ | refine z_err0 ?_ | refine z_errB ?_ | refine z_zipL ?_ | refine z_aStar ?_ | refine z_rgV ?_ | refine z_irgV ?_ | (with_reducible refine u_mul ?_ ?_; next => first | exact mulC_r (by decide) (by decide) | exact mulC_l (by decide) (by decide) | exact mulC_r (by omega) (by omega) | exact mulC_l (by omega) (by omega)) | (with_reducible refine u_mod ?_ ?_; next => first | decide | assumption | omega) | (with_reducible refine u_div ?_ ?_; next => first | exact divC_s (by decide) (by decide) | exact divC_s (by omega) (by omega)))))
/-- a row of sights -/
structure Sg where
  h : Str → Int
  lo : Option Int
  hi : Option Int
abbrev oD : Option Int → D
  | none => .non
  | some i => .int i
abbrev sgD (A : List Str) (s : Sg) : D := .tup [hrD A s.h, oD s.lo, oD s.hi]
def bot (m : Option Int) (s : Sg) (n : Str) : Option Int := match m with
  | none => s.lo.map (· - s.h n)
  | some _ => some (match s.lo with
    | none => 0
    | some l => if l - s.h n > 0 then l - s.h n else 0)
def top (m : Option Int) (s : Sg) (n : Str) : Option Int := match m with
  | none => s.hi.map (· - s.h n)
  | some w => some (match s.hi with
    | none => w
    | some x => if x - s.h n < w then x - s.h n else w)
def stnd (m : Option Int) (near far : Sg) (n : Str) : Bool := match top m near n, bot m far n with
  | some t, some b => decide (b ≤ t)
  | _, _ => true
theorem bounds_ok {A : List Str} {m : Option Int} {s : Sg} {n : Str} {st : Sto} (hn : n ∈ A) : m__law_bounds [oD m, sgD A s, .str n] st = some (.lst [oD (bot m s n), oD (top m s n)], st) := by
  obtain ⟨h, lo, hi⟩ := s
  have e := dx_hr (h := h) hn st
  rcases lo with _ | l <;> rcases hi with _ | u <;> rcases m with _ | w <;> try (simp [g_lst, g_eqN, g_addI, g_addL, g_cat, g_subI, g_ixL, g_ixT, g_lt, g_le, g_gt, g_ge, fnM, env0, sSeq, sSet, sOwn, lDisp, aNil, eCall, eCallP, aCons, eVar, sFor, iSeq, loopM, noChk, asgN, asgT, setAll, sIf, bOf, bAnd, bOr, bNot, bYes, eOp, eL, lComp, compM, wipeE, oEqDD, ePeek, eqDD, flatD, eqGD, hitD, getG, eqFD, sApp, sFrz, frz, sRet, iKy, iKyT, keyT, keyV, eC, eBi, gLen, eIf, eTup, oIsN, oNotN, isNonD, dComp, dcM, putKD, putV, dCompT, dcMT, putKDT, putVT, eD, eDT, iEnm, enumD, eOr, eAnd, eNot, oEqLD, eqLD, oInLD, sDrop, sPar, Kd.run, eFld, fldD, eGetOT, eInOT, sPutT, sOwnT, sFrzT, frzT, sUnp, atI, ixN, eNeg, eVals, eMake, mapO, sNil, lT0, sPut, gMax, gMin, eMeth, ofS_inj, m__law_bounds, b__law_bounds, e, bot, top, sgD, oD]; done)
abbrev stbody : SS := (sSeq (sPar 6 7 (.val (eOp oIx (eCall m__law_bounds [] (aCons (eVar 1) (aCons (eVar 3) (aCons (eVar 5) (aNil))))) (eC (.int 0)))) (.val (eOp oIx (eCall m__law_bounds [] (aCons (eVar 1) (aCons (eVar 2) (aCons (eVar 5) (aNil))))) (eC (.int 1)))))
  (sIf (bOr (bOf (eOp oIsN (ePeek 6) (eC .non))) (bOr (bOf (eOp oIsN (ePeek 7) (eC .non))) (bOf (eOp oLe (ePeek 6) (ePeek 7)))))
  (sApp 4 (eVar 5))
  (sNil)))
theorem stbody_ok {A : List Str} {m : Option Int} {near far : Sg} {n : Str} {st : Sto} {a0 : D} {ys : List D} {p6 p7 : Sl} (hn : n ∈ A) (hl : ys.length < 1000000) :
    ∃ q6 q7, stbody [.val a0, .val (oD m), .val (sgD A near), .val (sgD A far), .own ys, .val (.str n), p6, p7] st = some (.nx [.val a0, .val (oD m), .val (sgD A near), .val (sgD A far), .own (if stnd m near far n then ys ++ [.str n] else ys), .val (.str n), q6, q7], st) := by
  have e1 := bounds_ok (m := m) (s := far) (st := st) hn
  have e2 := bounds_ok (m := m) (s := near) (st := st) hn
  refine ⟨.val (oD (bot m far n)), .val (oD (top m near n)), ?_⟩
  unfold stnd
  cases hb : bot m far n with
  | none => cases ht : top m near n <;> simp [g_lst, g_eqN, g_addI, g_addL, g_cat, g_subI, g_ixL, g_ixT, g_lt, g_le, g_gt, g_ge, fnM, env0, sSeq, sSet, sOwn, lDisp, aNil, eCall, eCallP, aCons, eVar, sFor, iSeq, loopM, noChk, asgN, asgT, setAll, sIf, bOf, bAnd, bOr, bNot, bYes, eOp, eL, lComp, compM, wipeE, oEqDD, ePeek, eqDD, flatD, eqGD, hitD, getG, eqFD, sApp, sFrz, frz, sRet, iKy, iKyT, keyT, keyV, eC, eBi, gLen, eIf, eTup, oIsN, oNotN, isNonD, dComp, dcM, putKD, putV, dCompT, dcMT, putKDT, putVT, eD, eDT, iEnm, enumD, eOr, eAnd, eNot, oEqLD, eqLD, oInLD, sDrop, sPar, Kd.run, eFld, fldD, eGetOT, eInOT, sPutT, sOwnT, sFrzT, frzT, sUnp, atI, ixN, eNeg, eVals, eMake, mapO, sNil, lT0, sPut, gMax, gMin, eMeth, ofS_inj, e1, e2, hb, ht, oD, hl]
  | some b =>
    cases ht : top m near n with
    | none => simp [g_lst, g_eqN, g_addI, g_addL, g_cat, g_subI, g_ixL, g_ixT, g_lt, g_le, g_gt, g_ge, fnM, env0, sSeq, sSet, sOwn, lDisp, aNil, eCall, eCallP, aCons, eVar, sFor, iSeq, loopM, noChk, asgN, asgT, setAll, sIf, bOf, bAnd, bOr, bNot, bYes, eOp, eL, lComp, compM, wipeE, oEqDD, ePeek, eqDD, flatD, eqGD, hitD, getG, eqFD, sApp, sFrz, frz, sRet, iKy, iKyT, keyT, keyV, eC, eBi, gLen, eIf, eTup, oIsN, oNotN, isNonD, dComp, dcM, putKD, putV, dCompT, dcMT, putKDT, putVT, eD, eDT, iEnm, enumD, eOr, eAnd, eNot, oEqLD, eqLD, oInLD, sDrop, sPar, Kd.run, eFld, fldD, eGetOT, eInOT, sPutT, sOwnT, sFrzT, frzT, sUnp, atI, ixN, eNeg, eVals, eMake, mapO, sNil, lT0, sPut, gMax, gMin, eMeth, ofS_inj, e1, e2, hb, ht, oD, hl]
    | some t =>
      by_cases q : b ≤ t <;> simp [g_lst, g_eqN, g_addI, g_addL, g_cat, g_subI, g_ixL, g_ixT, g_lt, g_le, g_gt, g_ge, fnM, env0, sSeq, sSet, sOwn, lDisp, aNil, eCall, eCallP, aCons, eVar, sFor, iSeq, loopM, noChk, asgN, asgT, setAll, sIf, bOf, bAnd, bOr, bNot, bYes, eOp, eL, lComp, compM, wipeE, oEqDD, ePeek, eqDD, flatD, eqGD, hitD, getG, eqFD, sApp, sFrz, frz, sRet, iKy, iKyT, keyT, keyV, eC, eBi, gLen, eIf, eTup, oIsN, oNotN, isNonD, dComp, dcM, putKD, putV, dCompT, dcMT, putKDT, putVT, eD, eDT, iEnm, enumD, eOr, eAnd, eNot, oEqLD, eqLD, oInLD, sDrop, sPar, Kd.run, eFld, fldD, eGetOT, eInOT, sPutT, sOwnT, sFrzT, frzT, sUnp, atI, ixN, eNeg, eVals, eMake, mapO, sNil, lT0, sPut, gMax, gMin, eMeth, ofS_inj, e1, e2, hb, ht, oD, q, hl]
theorem filt_snoc {α : Type} {p : α → Bool} {A : List α} {i : Nat} {n : α} (h : A[i]? = some n) : (A.take (i + 1)).filter p = if p n then (A.take i).filter p ++ [n] else (A.take i).filter p := by
  rw [List.take_add_one, h]
  show ((A.take i) ++ [n]).filter p = _
  rw [List.filter_append]
  by_cases q : p n = true
  · rw [if_pos q, List.filter_cons_of_pos q]
    rfl
  · rw [if_neg q, List.filter_cons_of_neg q]
    exact List.append_nil _
theorem lawst_ok {A : List Str} {m : Option Int} {near far : Sg} {st : Sto} (hl : A.length < 1000) : m__law_standing [.lst (A.map D.str), oD m, sgD A near, sgD A far] st = some (.lst ((A.filter (stnd m near far)).map D.str), st) := by
  refine Ok.eq (z_fn rfl ?_)
  unfold b__law_standing
  bv_omega
  refine ⟨by simp, ?_⟩
  bv_omega
  refine z_seqI ?_
  bv_omega
  refine ⟨_, .inl rfl, ?_⟩
  refine (loop_inv (fun i env s => ∃ p5 p6 p7, env = [.val (.lst (A.map D.str)), .val (oD m), .val (sgD A near), .val (sgD A far), .own (((A.take i).filter (stnd m near far)).map D.str), p5, p6, p7] ∧ s = st) _ 0 _ _ ⟨_, _, _, rfl, rfl⟩ ?_ (fun _ _ _ => rfl)).mono ?_
  · rintro i x e0 s hx ⟨p5, p6, p7, rfl, rfl⟩
    rw [List.getElem?_map] at hx
    obtain ⟨n, hn, rfl⟩ := Option.map_eq_some_iff.mp hx
    rw [Nat.zero_add]
    have hf := List.length_filter_le (stnd m near far) (A.take i)
    have ht := List.length_take_le i A
    obtain ⟨q6, q7, e⟩ := stbody_ok (m := m) (near := near) (far := far) (st := s) (a0 := .lst (A.map D.str)) (ys := ((A.take i).filter (stnd m near far)).map D.str) (p6 := p6) (p7 := p7) (List.mem_of_getElem? hn) (by rw [List.length_map]; have := (List.getElem?_eq_some_iff.mp hn).1; rw [List.length_take] at hf; omega)
    refine ⟨rfl, _, rfl, _, s, e, _, .inl rfl, .val (.str n), q6, q7, ?_, rfl⟩
    rw [filt_snoc hn]
    by_cases q : stnd m near far n = true
    · rw [if_pos q, if_pos q, List.map_append]
      rfl
    · rw [if_neg q, if_neg q]
  · rintro o s ⟨e', rfl, p5, p6, p7, rfl, rfl⟩
    rw [List.length_map, Nat.zero_add, List.take_length]
    bv_omega
    exact ⟨rfl, rfl⟩
/-! ### pairs of rows -/
def clashQ (A : List Str) (m : Option Int) (R : List Sg) (i j : Nat) : Bool := match R[i]?, R[j]? with
  | some a, some b => (A.filter (stnd m a b)).isEmpty
  | _, _ => false
def prs (A : List Str) (m : Option Int) (R : List Sg) : List (Nat × Nat) := (List.range R.length).flatMap fun i => ((List.range R.length).filter (clashQ A m R i)).map fun j => (i, j)
abbrev pD (p : Nat × Nat) : D := .tup [.int p.1, .int p.2]
abbrev rwD (A : List Str) (R : List Sg) : D := .lst (R.map (sgD A))
theorem rangeD_nat {n : Nat} : rangeD 0 1 n = (List.range n).map fun (i : Nat) => D.int (i : Int) := by
  unfold rangeD
  refine List.map_congr_left fun i _ => ?_
  rw [Int.zero_add, Int.mul_one]
theorem at_row {A : List Str} {R : List Sg} {i : Nat} {s : Sg} (h : R[i]? = some s) : atI (R.map (sgD A)) (i : Int) = some (sgD A s) := by
  unfold atI ixN
  have hl := (List.getElem?_eq_some_iff.mp h).1
  rw [if_pos (by omega), List.length_map, if_pos (by omega), Int.toNat_natCast]
  show (R.map (sgD A))[i]? = _
  rw [List.getElem?_map, h]
  rfl
abbrev prbody : SS := (sIf (bOf (eOp oEq (eCall m__law_standing [] (aCons (eVar 0) (aCons (eVar 1) (aCons (eOp oIx (ePeek 2) (ePeek 4)) (aCons (eOp oIx (ePeek 2) (ePeek 5)) (aNil)))))) (eL (lDisp (aNil)))))
  (sApp 3 (eTup (aCons (eVar 4) (aCons (eVar 5) (aNil)))))
  (sNil))
theorem prbody_ok {A : List Str} {m : Option Int} {R : List Sg} {i j : Nat} {a b : Sg} {st : Sto} {ys : List D} (hA : ∀ z ∈ A, Nm z) (hl : A.length < 1000) (ha : R[i]? = some a) (hb : R[j]? = some b) (hy : ys.length < 1000000) :
    prbody [.val (.lst (A.map D.str)), .val (oD m), .val (rwD A R), .own ys, .val (.int i), .val (.int j)] st = some (.nx [.val (.lst (A.map D.str)), .val (oD m), .val (rwD A R), .own (if clashQ A m R i j then ys ++ [pD (i, j)] else ys), .val (.int i), .val (.int j)], st) := by
  have e1 := at_row (A := A) ha
  have e2 := at_row (A := A) hb
  have e3 := lawst_ok (A := A) (m := m) (near := a) (far := b) (st := st) hl
  have e4 : oEq (.lst ((A.filter (stnd m a b)).map D.str)) (.lst []) st = some (.bl (A.filter (stnd m a b)).isEmpty) := by
    obtain ⟨d, h1, h2⟩ := u_eqNil (s := st) (Q := fun d => d = .bl (decide (((A.filter (stnd m a b)).map PyData.str) = []))) (py_lstS (n := 58) fun z hz => (hA z (List.mem_filter.mp hz).1).ok) rfl
    rw [h1, h2]
    congr 2
    cases A.filter (stnd m a b) <;> rfl
  have e5 : clashQ A m R i j = (A.filter (stnd m a b)).isEmpty := by
    unfold clashQ
    rw [ha, hb]
  rw [e5]
  cases hq : (A.filter (stnd m a b)).isEmpty <;> simp [g_lst, g_eqN, g_addI, g_addL, g_cat, g_subI, g_ixL, g_ixT, g_lt, g_le, g_gt, g_ge, fnM, env0, sSeq, sSet, sOwn, lDisp, aNil, eCall, eCallP, aCons, eVar, sFor, iSeq, loopM, noChk, asgN, asgT, setAll, sIf, bOf, bAnd, bOr, bNot, bYes, eOp, eL, lComp, compM, wipeE, oEqDD, ePeek, eqDD, flatD, eqGD, hitD, getG, eqFD, sApp, sFrz, frz, sRet, iKy, iKyT, keyT, keyV, eC, eBi, gLen, eIf, eTup, oIsN, oNotN, isNonD, dComp, dcM, putKD, putV, dCompT, dcMT, putKDT, putVT, eD, eDT, iEnm, enumD, eOr, eAnd, eNot, oEqLD, eqLD, oInLD, sDrop, sPar, Kd.run, eFld, fldD, eGetOT, eInOT, sPutT, sOwnT, sFrzT, frzT, sUnp, eNeg, eVals, eMake, mapO, sNil, lT0, sPut, gMax, gMin, eMeth, ofS_inj, e1, e2, e3, e4, hq, hy, rwD]
theorem len_rw {A : List Str} {R : List Sg} {st : Sto} (h : R.length ≤ 100) : gLen [rwD A R] st = some (.int R.length) := by
  show some (D.int ((R.map (sgD A)).length : Nat)) = _
  rw [List.length_map]
theorem prs_len {A : List Str} {m : Option Int} {R : List Sg} : ∀ (l : List Nat), (l.flatMap fun i => ((List.range R.length).filter (clashQ A m R i)).map fun j => (i, j)).length ≤ l.length * R.length
  | [] => by simp
  | i :: l => by
    rw [List.flatMap_cons, List.length_append, List.length_map, List.length_cons]
    have h1 := List.length_filter_le (clashQ A m R i) (List.range R.length)
    rw [List.length_range] at h1
    have := prs_len (A := A) (m := m) (R := R) l
    have e : (l.length + 1) * R.length = l.length * R.length + R.length := by rw [Nat.succ_mul]
    omega
theorem lawpairs_ok {A : List Str} {m : Option Int} {R : List Sg} {st : Sto} (hA : ∀ z ∈ A, Nm z) (hl : A.length < 1000) (hR : R.length ≤ 100) : m__law_pairs [.lst (A.map D.str), oD m, rwD A R] st = some (.lst ((prs A m R).map pD), st) := by
  refine Ok.eq (z_fn rfl ?_)
  unfold b__law_pairs
  bv_omega
  refine ⟨by simp, ?_⟩
  bv_omega
  refine u_now (a := .int R.length) (len_rw hR) ?_
  bv_omega
  refine ⟨_, rfl, inR_t (by omega) (by omega), ?_⟩
  rw [Int.toNat_natCast, rangeD_nat]
  refine (loop_inv (fun i env s => ∃ p4 p5, env = [.val (.lst (A.map D.str)), .val (oD m), .val (rwD A R), .own ((((List.range i).flatMap fun i => ((List.range R.length).filter (clashQ A m R i)).map fun j => (i, j)).map pD)), p4, p5] ∧ s = st) _ 0 _ _ ⟨_, _, rfl, rfl⟩ ?_ (fun _ _ _ => rfl)).mono ?_
  · rintro i x e0 s hx ⟨p4, p5, rfl, e0⟩
    subst e0
    obtain ⟨s0, hs0⟩ : ∃ s0, s0 = s := ⟨s, rfl⟩
    rw [← hs0]
    rw [List.getElem?_map] at hx
    obtain ⟨i', hi, rfl⟩ := Option.map_eq_some_iff.mp hx
    obtain ⟨hlt, rfl⟩ := List.getElem?_eq_some_iff.mp hi
    rw [List.length_range] at hlt
    rw [List.getElem_range, Nat.zero_add]
    refine ⟨rfl, _, rfl, ?_⟩
    have ha : R[i]? = some R[i] := List.getElem?_eq_getElem hlt
    have pl := prs_len (A := A) (m := m) (R := R) (List.range i)
    rw [List.length_range] at pl
    have pl2 : i * R.length ≤ 100 * 100 := Nat.mul_le_mul (by omega) hR
    generalize hg : ((List.range i).flatMap fun i => ((List.range R.length).filter (clashQ A m R i)).map fun j => (i, j)) = G at pl ⊢
    bv_omega
    refine u_now (a := .int R.length) (len_rw hR) ?_
    bv_omega
    refine ⟨_, rfl, inR_t (by omega) (by omega), ?_⟩
    rw [Int.toNat_natCast, rangeD_nat]
    refine (loop_inv (fun j env s => ∃ p5, env = [.val (.lst (A.map D.str)), .val (oD m), .val (rwD A R), .own ((G ++ ((List.range j).filter (clashQ A m R i)).map fun j => (i, j)).map pD), .val (.int i), p5] ∧ s = s0) _ 0 _ _ ⟨_, by simp; rfl, rfl⟩ ?_ (fun _ _ _ => rfl)).mono ?_
    · rintro j x e0 s hx ⟨p5, rfl, rfl⟩
      rw [List.getElem?_map] at hx
      obtain ⟨j', hj, rfl⟩ := Option.map_eq_some_iff.mp hx
      obtain ⟨hjt, rfl⟩ := List.getElem?_eq_some_iff.mp hj
      rw [List.length_range] at hjt
      rw [List.getElem_range, Nat.zero_add]
      have hb : R[j]? = some R[j] := List.getElem?_eq_getElem hjt
      have fl := List.length_filter_le (clashQ A m R i) (List.range j)
      rw [List.length_range] at fl
      refine ⟨rfl, _, rfl, _, _, prbody_ok hA hl ha hb (by rw [List.length_map, List.length_append, List.length_map]; omega), _, .inl rfl, .val (.int j), ?_, rfl⟩
      rw [List.range_succ, List.filter_append]
      by_cases q : clashQ A m R i j = true
      · rw [if_pos q, List.filter_cons_of_pos q]
        simp
      · rw [if_neg q, List.filter_cons_of_neg q]
        simp
    · rintro o s ⟨e', rfl, p5, rfl, rfl⟩
      rw [List.length_map, List.length_range, Nat.zero_add]
      refine ⟨_, .inl rfl, .val (.int i), p5, ?_, rfl⟩
      rw [List.range_succ, List.flatMap_append, ← hg]
      simp
  · rintro o s ⟨e', rfl, p4, p5, rfl, rfl⟩
    rw [List.length_map, List.length_range, Nat.zero_add]
    bv_omega
    exact ⟨rfl, rfl⟩
end K64

namespace K64
open PySem L2 LW
local macro_rules | `(tactic| bv_omega) => `(tactic| (repeat (first | with_reducible first | refine z_var (by with_unfolding_all rfl) ?_ | refine z_pk (by with_unfolding_all rfl) ?_ | refine z_pkO (by with_unfolding_all rfl) ?_ | refine z_retO (by with_unfolding_all rfl) ?_ | refine z_dictO (by with_unfolding_all rfl) ?_ | refine z_c ?_ | refine z_op ?_ | refine z_nil ?_ | refine z_cons ?_ | refine z_tup ?_ | refine z_lst ?_ | refine z_L ?_ | refine z_bi ?_ | refine z_call ?_ | refine z_meth ?_ | refine z_prop ?_ | refine z_fld ?_ | refine z_make ?_ | refine z_not ?_ | refine z_neg ?_ | refine z_bits ?_ | refine t_of ?_ | refine t_not ?_ | refine z_slN ?_ | refine z_oN ?_ | refine z_oS ?_ | refine z_snil ?_ | refine z_seq ?_ | refine z_set ?_ | refine z_own ?_ | refine z_ret ?_ | refine z_retC ?_ | refine z_drop ?_ | refine z_frz ?_ | refine z_app ?_ | refine z_appC ?_ | refine z_putC ?_ | refine z_for ?_ | refine z_lc ?_ | refine z_yes ?_ | refine z_kv ?_ | refine z_ko ?_ | refine z_par ?_ | refine z_unp ?_ | refine z_sfld ?_ | refine z_rg1 ?_ | refine z_rg2 ?_ | refine z_rg3 ?_ | refine z_and ?_ | refine z_or ?_ | refine z_eif ?_ | refine t_and ?_ | refine t_or ?_ | refine z_sif ?_ | refine u_add ?_ | refine u_sub ?_ | refine u_lt ?_ | refine u_le ?_ | refine u_gt ?_ | refine u_ge ?_ | refine u_isN ?_ | refine u_notN ?_ | refine z_par3 ?_ | refine z_dcl ?_ | refine z_cel ?_ | refine z_putDC ?_ | refine z_clrC ?_ | refine z_ownD ?_ | refine z_lenSN ?_ | refine z_D ?_ | refine z_dComp ?_ | refine z_lc2 ?_ | refine z_sn ?_ | refine z_makeC ?_ | refine z_methC ?_ | refine z_fldC ?_ | refine z_sfldC ?_ | refine z_xSet ?_ | refine z_methX ?_ | refine z_methCX ?_ | refine z_xIfE ?_ | refine z_xEL ?_ | refine z_xPar2 (by decide) ?_ | refine z_kD2 ?_ | refine z_par2 (by decide) ?_ | refine z_d0 ?_ | refine z_xBare ?_ | refine z_xFrz ?_ | refine z_xFor ?_ | refine z_sortIt ?_ | refine z_lenO ?_ | refine z_xSeq ?_ | refine z_xIf ?_ | refine z_xRaise ?_ | refine z_xL ?_ | refine z_xNil ?_ | refine z_xDrop ?_ | refine z_xRet ?_ | refine z_eCallX ?_ | refine z_sTry ?_ | refine z_DT ?_ | refine z_t0 ?_ | refine z_Td ?_ | refine z_ownT ?_ | refine z_putT ?_ | refine z_frzT ?_ | refine z_par3T ?_ | refine z_toT ?_ | refine z_join ?_ | refine z_sw3 ?_ | refine z_err ?_ | refine z_err0 ?_ | refine z_errB ?_ | refine z_zipL ?_ | refine z_aStar ?_ | refine z_rgV ?_ | refine z_irgV ?_ | (with_reducible refine u_mul ?_ ?_; next => first | exact mulC_r (by decide) (by decide) | exact mulC_l (by decide) (by decide) | exact mulC_r (by omega) (by omega) | exact mulC_l (by omega) (by omega)) | (with_reducible refine u_mod ?_ ?_; next => first | decide | assumption | omega) | (with_reducible refine u_div ?_ ?_; next => first | exact divC_s (by decide) (by decide) | exact divC_s (by omega) (by omega)))))
/-! ### the methods of sights -/
abbrev siD (A : List Str) (m : Option Int) (R : List Sg) : D := .obj "Sights" ["lot", "limit", "seen"] [.lst (A.map D.str), oD m, rwD A R]
theorem f_lot {A : List Str} {m : Option Int} {R : List Sg} : fldD "lot" ["lot", "limit", "seen"] [.lst (A.map D.str), oD m, rwD A R] = some (.lst (A.map D.str)) := rfl
theorem f_lim {A : List Str} {m : Option Int} {R : List Sg} : fldD "limit" ["lot", "limit", "seen"] [.lst (A.map D.str), oD m, rwD A R] = some (oD m) := rfl
theorem f_see {A : List Str} {m : Option Int} {R : List Sg} : fldD "seen" ["lot", "limit", "seen"] [.lst (A.map D.str), oD m, rwD A R] = some (rwD A R) := rfl
theorem gw_ok {A : List Str} {m : Option Int} {R : List Sg} {i : Nat} {s : Sg} {n : Str} {st : Sto} (hr : R[i]? = some s) (hn : n ∈ A) : m_Sights_greatest_wait [siD A m R, .int i, .str n] st = some (oD (top m s n), st) := by
  have ea := at_row (A := A) hr
  obtain ⟨h, lo, hi⟩ := s
  have e := dx_hr (h := h) hn st
  rcases hi with _ | u <;> rcases m with _ | w <;> simp [g_lst, g_eqN, g_addI, g_addL, g_cat, g_subI, g_ixL, g_ixT, g_lt, g_le, g_gt, g_ge, fnM, env0, sSeq, sSet, sOwn, lDisp, aNil, eCall, eCallP, aCons, eVar, sFor, iSeq, loopM, noChk, asgN, asgT, setAll, sIf, bOf, bAnd, bOr, bNot, bYes, eOp, eL, lComp, compM, wipeE, oEqDD, ePeek, eqDD, flatD, eqGD, hitD, getG, eqFD, sApp, sFrz, frz, sRet, iKy, iKyT, keyT, keyV, eC, eBi, gLen, eIf, eTup, oIsN, oNotN, isNonD, dComp, dcM, putKD, putV, dCompT, dcMT, putKDT, putVT, eD, eDT, iEnm, enumD, eOr, eAnd, eNot, oEqLD, eqLD, oInLD, sDrop, sPar, Kd.run, eFld, fldD, eGetOT, eInOT, sPutT, sOwnT, sFrzT, frzT, sUnp, eNeg, eVals, eMake, mapO, sNil, lT0, sPut, gMax, gMin, eMeth, ofS_inj, m_Sights_greatest_wait, b_Sights_greatest_wait, e, ea, top, sgD, oD, rwD]
theorem lw_ok {A : List Str} {m : Option Int} {R : List Sg} {i : Nat} {s : Sg} {n : Str} {st : Sto} (hr : R[i]? = some s) (hn : n ∈ A) : m_Sights_least_wait [siD A m R, .int i, .str n] st = some (oD (bot m s n), st) := by
  have ea := at_row (A := A) hr
  obtain ⟨h, lo, hi⟩ := s
  have e := dx_hr (h := h) hn st
  rcases lo with _ | u <;> rcases m with _ | w <;> simp [g_lst, g_eqN, g_addI, g_addL, g_cat, g_subI, g_ixL, g_ixT, g_lt, g_le, g_gt, g_ge, fnM, env0, sSeq, sSet, sOwn, lDisp, aNil, eCall, eCallP, aCons, eVar, sFor, iSeq, loopM, noChk, asgN, asgT, setAll, sIf, bOf, bAnd, bOr, bNot, bYes, eOp, eL, lComp, compM, wipeE, oEqDD, ePeek, eqDD, flatD, eqGD, hitD, getG, eqFD, sApp, sFrz, frz, sRet, iKy, iKyT, keyT, keyV, eC, eBi, gLen, eIf, eTup, oIsN, oNotN, isNonD, dComp, dcM, putKD, putV, dCompT, dcMT, putKDT, putVT, eD, eDT, iEnm, enumD, eOr, eAnd, eNot, oEqLD, eqLD, oInLD, sDrop, sPar, Kd.run, eFld, fldD, eGetOT, eInOT, sPutT, sOwnT, sFrzT, frzT, sUnp, eNeg, eVals, eMake, mapO, sNil, lT0, sPut, gMax, gMin, eMeth, ofS_inj, m_Sights_least_wait, b_Sights_least_wait, e, ea, bot, sgD, oD, rwD]
noncomputable abbrev smbody : SS := (sSeq (sPar 5 6 (.val (eMeth "Sights" "greatest_wait" m_Sights_greatest_wait [] (eVar 0) (aCons (eVar 1) (aCons (eVar 4) (aNil))))) (.val (eMeth "Sights" "least_wait" m_Sights_least_wait [] (eVar 0) (aCons (eVar 2) (aCons (eVar 4) (aNil))))))
  (sIf (bOr (bOf (eOp oIsN (ePeek 5) (eC .non))) (bOr (bOf (eOp oIsN (ePeek 6) (eC .non))) (bOf (eOp oLe (ePeek 6) (ePeek 5)))))
  (sApp 3 (eVar 4))
  (sNil)))
theorem smbody_ok {A : List Str} {m : Option Int} {R : List Sg} {i j : Nat} {a b : Sg} {n : Str} {st : Sto} {ys : List D} {p5 p6 : Sl} (ha : R[i]? = some a) (hb : R[j]? = some b) (hn : n ∈ A) (hl : ys.length < 1000000) :
    ∃ q5 q6, smbody [.val (siD A m R), .val (.int i), .val (.int j), .own ys, .val (.str n), p5, p6] st = some (.nx [.val (siD A m R), .val (.int i), .val (.int j), .own (if stnd m a b n then ys ++ [.str n] else ys), .val (.str n), q5, q6], st) := by
  have e1 := gw_ok (m := m) (st := st) ha hn
  have e2 := lw_ok (m := m) (st := st) hb hn
  refine ⟨.val (oD (top m a n)), .val (oD (bot m b n)), ?_⟩
  unfold stnd
  cases hb : bot m b n with
  | none => cases ht : top m a n <;> simp [g_lst, g_eqN, g_addI, g_addL, g_cat, g_subI, g_ixL, g_ixT, g_lt, g_le, g_gt, g_ge, fnM, env0, sSeq, sSet, sOwn, lDisp, aNil, eCall, eCallP, aCons, eVar, sFor, iSeq, loopM, noChk, asgN, asgT, setAll, sIf, bOf, bAnd, bOr, bNot, bYes, eOp, eL, lComp, compM, wipeE, oEqDD, ePeek, eqDD, flatD, eqGD, hitD, getG, eqFD, sApp, sFrz, frz, sRet, iKy, iKyT, keyT, keyV, eC, eBi, gLen, eIf, eTup, oIsN, oNotN, isNonD, dComp, dcM, putKD, putV, dCompT, dcMT, putKDT, putVT, eD, eDT, iEnm, enumD, eOr, eAnd, eNot, oEqLD, eqLD, oInLD, sDrop, sPar, Kd.run, eFld, fldD, eGetOT, eInOT, sPutT, sOwnT, sFrzT, frzT, sUnp, eNeg, eVals, eMake, mapO, sNil, lT0, sPut, gMax, gMin, eMeth, ofS_inj, e1, e2, hb, ht, oD, hl, eMeth]
  | some b =>
    cases ht : top m a n with
    | none => simp [g_lst, g_eqN, g_addI, g_addL, g_cat, g_subI, g_ixL, g_ixT, g_lt, g_le, g_gt, g_ge, fnM, env0, sSeq, sSet, sOwn, lDisp, aNil, eCall, eCallP, aCons, eVar, sFor, iSeq, loopM, noChk, asgN, asgT, setAll, sIf, bOf, bAnd, bOr, bNot, bYes, eOp, eL, lComp, compM, wipeE, oEqDD, ePeek, eqDD, flatD, eqGD, hitD, getG, eqFD, sApp, sFrz, frz, sRet, iKy, iKyT, keyT, keyV, eC, eBi, gLen, eIf, eTup, oIsN, oNotN, isNonD, dComp, dcM, putKD, putV, dCompT, dcMT, putKDT, putVT, eD, eDT, iEnm, enumD, eOr, eAnd, eNot, oEqLD, eqLD, oInLD, sDrop, sPar, Kd.run, eFld, fldD, eGetOT, eInOT, sPutT, sOwnT, sFrzT, frzT, sUnp, eNeg, eVals, eMake, mapO, sNil, lT0, sPut, gMax, gMin, eMeth, ofS_inj, e1, e2, hb, ht, oD, hl, eMeth]
    | some t =>
      by_cases q : b ≤ t <;> simp [g_lst, g_eqN, g_addI, g_addL, g_cat, g_subI, g_ixL, g_ixT, g_lt, g_le, g_gt, g_ge, fnM, env0, sSeq, sSet, sOwn, lDisp, aNil, eCall, eCallP, aCons, eVar, sFor, iSeq, loopM, noChk, asgN, asgT, setAll, sIf, bOf, bAnd, bOr, bNot, bYes, eOp, eL, lComp, compM, wipeE, oEqDD, ePeek, eqDD, flatD, eqGD, hitD, getG, eqFD, sApp, sFrz, frz, sRet, iKy, iKyT, keyT, keyV, eC, eBi, gLen, eIf, eTup, oIsN, oNotN, isNonD, dComp, dcM, putKD, putV, dCompT, dcMT, putKDT, putVT, eD, eDT, iEnm, enumD, eOr, eAnd, eNot, oEqLD, eqLD, oInLD, sDrop, sPar, Kd.run, eFld, fldD, eGetOT, eInOT, sPutT, sOwnT, sFrzT, frzT, sUnp, eNeg, eVals, eMake, mapO, sNil, lT0, sPut, gMax, gMin, eMeth, ofS_inj, e1, e2, hb, ht, oD, q, hl, eMeth]
theorem stand_ok {A : List Str} {m : Option Int} {R : List Sg} {i j : Nat} {a b : Sg} {st : Sto} (ha : R[i]? = some a) (hb : R[j]? = some b) (hl : A.length < 1000) : m_Sights_standing [siD A m R, .int i, .int j] st = some (.lst ((A.filter (stnd m a b)).map D.str), st) := by
  refine Ok.eq (z_fn rfl ?_)
  unfold b_Sights_standing
  bv_omega
  refine ⟨by simp, ?_⟩
  bv_omega
  refine z_seqI ?_
  bv_omega
  refine ⟨rfl, u_now f_lot ?_⟩
  refine ⟨_, .inl rfl, ?_⟩
  refine (loop_inv (fun k env s => ∃ p4 p5 p6, env = [.val (siD A m R), .val (.int i), .val (.int j), .own (((A.take k).filter (stnd m a b)).map D.str), p4, p5, p6] ∧ s = st) _ 0 _ _ ⟨_, _, _, rfl, rfl⟩ ?_ (fun _ _ _ => rfl)).mono ?_
  · rintro k x e0 s hx ⟨p4, p5, p6, rfl, rfl⟩
    rw [List.getElem?_map] at hx
    obtain ⟨n, hn, rfl⟩ := Option.map_eq_some_iff.mp hx
    rw [Nat.zero_add]
    have hf := List.length_filter_le (stnd m a b) (A.take k)
    obtain ⟨q6, q7, e⟩ := smbody_ok (m := m) (st := s) (ys := ((A.take k).filter (stnd m a b)).map D.str) (p5 := p5) (p6 := p6) ha hb (List.mem_of_getElem? hn) (by rw [List.length_map]; have := (List.getElem?_eq_some_iff.mp hn).1; rw [List.length_take] at hf; omega)
    refine ⟨rfl, _, rfl, _, s, e, _, .inl rfl, .val (.str n), q6, q7, ?_, rfl⟩
    rw [filt_snoc hn]
    by_cases q : stnd m a b n = true
    · rw [if_pos q, if_pos q, List.map_append]
      rfl
    · rw [if_neg q, if_neg q]
  · rintro o s ⟨e', rfl, p5, p6, p7, rfl, rfl⟩
    rw [List.length_map, Nat.zero_add, List.take_length]
    bv_omega
    exact ⟨rfl, rfl⟩
theorem nil_eq {A : List Str} {p : Str → Bool} {st : Sto} (hA : ∀ z ∈ A, Nm z) : oEq (.lst ((A.filter p).map D.str)) (.lst []) st = some (.bl (A.filter p).isEmpty) := by
  obtain ⟨d, h1, h2⟩ := u_eqNil (s := st) (Q := fun d => d = .bl (decide (((A.filter p).map PyData.str) = []))) (py_lstS (n := 58) fun z hz => (hA z (List.mem_filter.mp hz).1).ok) rfl
  rw [h1, h2]
  congr 2
  cases A.filter p <;> rfl
theorem py_pD {n : Nat} {s : Sto} {p : Nat × Nat} : toPy (n + 2) s (pD p) = some (.tuple [.int p.1, .int p.2]) := rfl
theorem py_prs {n : Nat} {s : Sto} : ∀ (l : List (Nat × Nat)), mapO (toPy (n + 2) s) (l.map pD) = some (l.map fun p => PyData.tuple [.int p.1, .int p.2])
  | [] => rfl
  | p :: l => by
    rw [List.map_cons]
    unfold mapO
    rw [py_pD]
    dsimp only
    rw [py_prs l]
    rfl
theorem py_lprs {n : Nat} {s : Sto} {l : List (Nat × Nat)} : toPy (n + 3) s (.lst (l.map pD)) = some (.list (l.map fun p => PyData.tuple [.int p.1, .int p.2])) := by
  unfold toPy
  dsimp only
  rw [py_prs]
theorem prs_le {A : List Str} {m : Option Int} {R : List Sg} (hR : R.length ≤ 100) : (prs A m R).length ≤ 10000 := by
  have h := prs_len (A := A) (m := m) (R := R) (List.range R.length)
  rw [List.length_range] at h
  exact Nat.le_trans h (Nat.mul_le_mul hR hR)
theorem clashes_ok {A : List Str} {m : Option Int} {R : List Sg} {st : Sto} (hA : ∀ z ∈ A, Nm z) (hl : A.length < 1000) (hR : R.length ≤ 100) : m_Sights_clashes [siD A m R] st = some (.lst ((prs A m R).map pD), st) := by
  refine Ok.eq (z_fn rfl ?_)
  unfold b_Sights_clashes
  bv_omega
  refine ⟨rfl, u_now f_see ?_⟩
  bv_omega
  refine u_now (a := .int R.length) (len_rw hR) ?_
  bv_omega
  refine ⟨_, rfl, ?_⟩
  bv_omega
  refine ⟨_, rfl, inR_t (by omega) (by omega), ?_⟩
  rw [Int.toNat_natCast, rangeD_nat]
  refine Ok.use (comp2_all (fun i : Nat => D.int (i : Int)) (fun i => (((List.range R.length).filter (clashQ A m R i)).map fun j => (i, j)).map pD) rfl (List.range R.length) fun i hi => ?_) ?_
  · have hi := List.mem_range.mp hi
    refine ⟨_, rfl, ?_⟩
    bv_omega
    refine ⟨_, rfl, inR_t (by omega) (by omega), rfl, ?_⟩
    rw [Int.toNat_natCast, rangeD_nat]
    have := comp_zf (chk := noChk) (asg := asgN 3) (st := st) (fun j : Nat => D.int (j : Int)) (fun j => pD (i, j)) (clashQ A m R i) rfl (List.range R.length) (cond := (bOf (eOp oEq (eMeth "Sights" "standing" m_Sights_standing [] (eVar 0) (aCons (eVar 2) (aCons (eVar 3) (aNil)))) (eL (lDisp (aNil)))))) (elt := (eTup (aCons (eVar 2) (aCons (eVar 3) (aNil)))))
      (env0 := [.val (siD A m R), .val (.rng R.length), .val (.int i), .un]) fun j hj => ?_
    · rw [List.map_map]
      exact this
    · have hj := List.mem_range.mp hj
      have ha : R[i]? = some R[i] := List.getElem?_eq_getElem hi
      have hb : R[j]? = some R[j] := List.getElem?_eq_getElem hj
      have e1 := stand_ok (m := m) (st := st) ha hb hl
      have e2 := nil_eq (p := stnd m R[i] R[j]) (st := st) hA
      have e5 : clashQ A m R i j = (A.filter (stnd m R[i] R[j])).isEmpty := by
        unfold clashQ
        rw [ha, hb]
      refine ⟨_, rfl, ⟨_, st, ?_, rfl, rfl⟩, fun _ => ⟨_, st, ?_, rfl, rfl⟩⟩
      · rw [e5]
        simp [g_lst, g_eqN, g_addI, g_addL, g_cat, g_subI, g_ixL, g_ixT, g_lt, g_le, g_gt, g_ge, fnM, env0, sSeq, sSet, sOwn, lDisp, aNil, eCall, eCallP, aCons, eVar, sFor, iSeq, loopM, noChk, asgN, asgT, setAll, sIf, bOf, bAnd, bOr, bNot, bYes, eOp, eL, lComp, compM, wipeE, oEqDD, ePeek, eqDD, flatD, eqGD, hitD, getG, eqFD, sApp, sFrz, frz, sRet, iKy, iKyT, keyT, keyV, eC, eBi, gLen, eIf, eTup, oIsN, oNotN, isNonD, dComp, dcM, putKD, putV, dCompT, dcMT, putKDT, putVT, eD, eDT, iEnm, enumD, eOr, eAnd, eNot, oEqLD, eqLD, oInLD, sDrop, sPar, Kd.run, eFld, fldD, eGetOT, eInOT, sPutT, sOwnT, sFrzT, frzT, sUnp, eNeg, eVals, eMake, mapO, sNil, lT0, sPut, gMax, gMin, eMeth, ofS_inj, e1, e2]
      · simp [g_lst, g_eqN, g_addI, g_addL, g_cat, g_subI, g_ixL, g_ixT, g_lt, g_le, g_gt, g_ge, fnM, env0, sSeq, sSet, sOwn, lDisp, aNil, eCall, eCallP, aCons, eVar, sFor, iSeq, loopM, noChk, asgN, asgT, setAll, sIf, bOf, bAnd, bOr, bNot, bYes, eOp, eL, lComp, compM, wipeE, oEqDD, ePeek, eqDD, flatD, eqGD, hitD, getG, eqFD, sApp, sFrz, frz, sRet, iKy, iKyT, keyT, keyV, eC, eBi, gLen, eIf, eTup, oIsN, oNotN, isNonD, dComp, dcM, putKD, putV, dCompT, dcMT, putKDT, putVT, eD, eDT, iEnm, enumD, eOr, eAnd, eNot, oEqLD, eqLD, oInLD, sDrop, sPar, Kd.run, eFld, fldD, eGetOT, eInOT, sPutT, sOwnT, sFrzT, frzT, sUnp, eNeg, eVals, eMake, mapO, sNil, lT0, sPut, gMax, gMin, eMeth, ofS_inj, e1]
  · have e : ((List.range R.length).flatMap fun i => (((List.range R.length).filter (clashQ A m R i)).map fun j => (i, j)).map pD) = (prs A m R).map pD := (List.map_flatMap ..).symm
    rw [e]
    refine ⟨?_, rfl, rfl⟩
    rw [List.length_map]
    exact Nat.le_trans (prs_le hR) (by decide)
theorem cksi_ok {A : List Str} {m : Option Int} {R : List Sg} {st : Sto} : m_check_sights [siD A m R] st = some (.non, st) := by
  refine Ok.eq (z_fn rfl ?_)
  unfold b_check_sights
  bv_omega
  refine u_now (a := .bl true) rfl ?_
  refine b_f rfl ?_
  bv_omega
  exact ⟨rfl, rfl⟩
theorem nilP_eq {l : List (Nat × Nat)} {st : Sto} : oEq (.lst (l.map pD)) (.lst []) st = some (.bl l.isEmpty) := by
  obtain ⟨d, h1, h2⟩ := u_eqNil (s := st) (Q := fun d => d = .bl (decide ((l.map fun p => PyData.tuple [.int p.1, .int p.2]) = []))) (py_lprs (n := 57)) rfl
  rw [h1, h2]
  cases l <;> rfl
theorem nilP_ne {l : List (Nat × Nat)} {st : Sto} : oNe (.lst (l.map pD)) (.lst []) st = some (.bl (!l.isEmpty)) := by
  obtain ⟨d, h1, h2⟩ := u_neNil (s := st) (Q := fun d => d = .bl (!decide ((l.map fun p => PyData.tuple [.int p.1, .int p.2]) = []))) (py_lprs (n := 57)) rfl
  rw [h1, h2]
  cases l <;> rfl
def fstP : List (Nat × Nat) → D
  | [] => .non
  | p :: _ => pD p
theorem fstP_non (l : List (Nat × Nat)) : isNonD (fstP l) = l.isEmpty := by cases l <;> rfl
theorem at0 {x : D} {xs : List D} : atI (x :: xs) 0 = some x := by
  unfold atI ixN
  rw [if_pos (by omega), if_pos (by rw [List.length_cons]; omega)]
  rfl
section
variable {A : List Str} {m : Option Int} {R : List Sg} {st : Sto} (hA : ∀ z ∈ A, Nm z) (hl : A.length < 1000) (hR : R.length ≤ 100)
include hA hl hR
theorem fits_ok : m_fits [siD A m R] st = some (.bl (prs A m R).isEmpty, st) := by
  refine Ok.eq (z_fn rfl ?_)
  unfold b_fits
  bv_omega
  refine Ok.use cksi_ok ?_
  bv_omega
  refine ⟨rfl, by decide, ?_⟩
  bv_omega
  refine Ok.use (clashes_ok hA hl hR) ?_
  bv_omega
  refine ⟨by decide, ?_⟩
  refine u_now nilP_eq ?_
  exact ⟨rfl, rfl⟩
theorem clash_ok : m_clash [siD A m R] st = some (fstP (prs A m R), st) := by
  refine Ok.eq (z_fn rfl ?_)
  unfold b_clash
  bv_omega
  refine Ok.use cksi_ok ?_
  bv_omega
  refine ⟨rfl, by decide, ?_⟩
  bv_omega
  refine Ok.use (clashes_ok hA hl hR) ?_
  bv_omega
  refine ⟨by decide, ?_⟩
  refine u_now nilP_ne ?_
  cases hp : prs A m R with
  | nil =>
    refine b_f rfl ?_
    bv_omega
    exact ⟨rfl, rfl⟩
  | cons p l =>
    refine b_t rfl ?_
    bv_omega
    refine u_ixL (at0 (x := pD p)) ?_
    exact ⟨rfl, rfl⟩
end
end K64

namespace K64
open PySem L2 LW
local macro_rules | `(tactic| bv_omega) => `(tactic| (repeat (first | with_reducible first | refine z_var (by with_unfolding_all rfl) ?_ | refine z_pk (by with_unfolding_all rfl) ?_ | refine z_pkO (by with_unfolding_all rfl) ?_ | refine z_retO (by with_unfolding_all rfl) ?_ | refine z_dictO (by with_unfolding_all rfl) ?_ | refine z_c ?_ | refine z_op ?_ | refine z_nil ?_ | refine z_cons ?_ | refine z_tup ?_ | refine z_lst ?_ | refine z_L ?_ | refine z_bi ?_ | refine z_call ?_ | refine z_meth ?_ | refine z_prop ?_ | refine z_fld ?_ | refine z_make ?_ | refine z_not ?_ | refine z_neg ?_ | refine z_bits ?_ | refine t_of ?_ | refine t_not ?_ | refine z_slN ?_ | refine z_oN ?_ | refine z_oS ?_ | refine z_snil ?_ | refine z_seq ?_ | refine z_set ?_ | refine z_own ?_ | refine z_ret ?_ | refine z_retC ?_ | refine z_drop ?_ | refine z_frz ?_ | refine z_app ?_ | refine z_appC ?_ | refine z_putC ?_ | refine z_for ?_ | refine z_lc ?_ | refine z_yes ?_ | refine z_kv ?_ | refine z_ko ?_ | refine z_par ?_ | refine z_unp ?_ | refine z_sfld ?_ | refine z_rg1 ?_ | refine z_rg2 ?_ | refine z_rg3 ?_ | refine z_and ?_ | refine z_or ?_ | refine z_eif ?_ | refine t_and ?_ | refine t_or ?_ | refine z_sif ?_ | refine u_add ?_ | refine u_sub ?_ | refine u_lt ?_ | refine u_le ?_ | refine u_gt ?_ | refine u_ge ?_ | refine u_isN ?_ | refine u_notN ?_ | refine z_par3 ?_ | refine z_dcl ?_ | refine z_cel ?_ | refine z_putDC ?_ | refine z_clrC ?_ | refine z_ownD ?_ | refine z_lenSN ?_ | refine z_D ?_ | refine z_dComp ?_ | refine z_lc2 ?_ | refine z_sn ?_ | refine z_makeC ?_ | refine z_methC ?_ | refine z_fldC ?_ | refine z_sfldC ?_ | refine z_xSet ?_ | refine z_methX ?_ | refine z_methCX ?_ | refine z_xIfE ?_ | refine z_xEL ?_ | refine z_xPar2 (by decide) ?_ | refine z_kD2 ?_ | refine z_par2 (by decide) ?_ | refine z_d0 ?_ | refine z_xBare ?_ | refine z_xFrz ?_ | refine z_xFor ?_ | refine z_sortIt ?_ | refine z_lenO ?_ | refine z_xSeq ?_ | refine z_xIf ?_ | refine z_xRaise ?_ | refine z_xL ?_ | refine z_xNil ?_ | refine z_xDrop ?_ | refine z_xRet ?_ | refine z_eCallX ?_ | refine z_sTry ?_ | refine z_DT ?_ | refine z_t0 ?_ | refine z_Td ?_ | refine z_ownT ?_ | refine z_putT ?_ | refine z_frzT ?_ | refine z_par3T ?_ | refine z_toT ?_ | refine z_join ?_ | refine z_sw3 ?_ | refine z_err ?_ | refine z_err0 ?_ | refine z_errB ?_ | refine z_zipL ?_ | refine z_aStar ?_ | refine z_rgV ?_ | refine z_irgV ?_ | (with_reducible refine u_mul ?_ ?_; next => first | exact mulC_r (by decide) (by decide) | exact mulC_l (by decide) (by decide) | exact mulC_r (by omega) (by omega) | exact mulC_l (by omega) (by omega)) | (with_reducible refine u_mod ?_ ?_; next => first | decide | assumption | omega) | (with_reducible refine u_div ?_ ?_; next => first | exact divC_s (by decide) (by decide) | exact divC_s (by omega) (by omega)))))
/-! ### sights are made -/
/-- a lot of names -/
structure Lt (A : List Str) : Prop where
  nm : ∀ z ∈ A, Nm z
  nd : A.Nodup
  so : A.Pairwise leS
  lo : 1 ≤ A.length
  hi : A.length ≤ 9
theorem Lt.ok {A : List Str} (b : Lt A) : ∀ z ∈ A, PyData.strOk z = true := fun z hz => (b.nm z hz).ok
theorem Lt.sn {A : List Str} (b : Lt A) : sortN A = A := (sortN_uniq b.so b.nd fun _ => Iff.rfl).symm
def sgOk (s : Sg) : Prop := match s.lo, s.hi with
  | some l, some u => l ≤ u
  | _, _ => True
theorem Hr.len {st : Sto} {H : D} {zs : List Str} {h : Str → Int} (r : Hr st H zs h) : gLenD [H] st = some (.int zs.length) := by
  unfold gLenD
  dsimp only
  rw [r.g]
  show some (D.int ((zs.map Sum.inr : List Key).length : Nat)) = _
  rw [List.length_map]
theorem islot_ok {A : List Str} {st : Sto} (b : Lt A) : m_is_lot [.lst (A.map D.str)] st = some (.bl true, st) := by
  have bh := b.hi
  refine Ok.eq (z_fn rfl ?_)
  unfold b_is_lot
  bv_omega
  refine u_now (a := .bl true) rfl ?_
  refine b_f rfl ?_
  bv_omega
  refine ⟨by decide, ?_⟩
  refine u_eqNil (py_lstS b.ok) ?_
  refine b_f (decide_eq_false fun z => by
    have z2 := congrArg List.length z
    rw [List.length_map] at z2
    have z3 := b.lo
    rw [z2] at z3
    cases z3) ?_
  bv_omega
  refine z_seqI ?_
  bv_omega
  refine ⟨_, .inl rfl, by rw [List.length_map]; omega, ?_⟩
  refine Ok.use (comp_none rfl _ fun x hx => ?_) ?_
  · obtain ⟨z, hz, rfl⟩ := List.mem_map.mp hx
    refine ⟨_, rfl, ?_⟩
    bv_omega
    refine Ok.use (name_ok (b.nm z hz)) ?_
    exact ⟨rfl, rfl⟩
  bv_omega
  refine ⟨by decide, ?_⟩
  refine u_neNil (ps := []) rfl ?_
  refine b_f rfl ?_
  bv_omega
  refine ⟨_, lstS_map, by omega, ?_⟩
  refine u_eq (py_lstS b.ok) (py_lstS fun z hz => b.ok z (mem_sortN.mp hz)) ?_
  rw [b.sn, SeqAt.eqv_refl _ (SeqAt.canLay_of_shaped (toPy_shaped (py_lstS (s := st) (n := 58) b.ok)))]
  exact ⟨rfl, rfl⟩
theorem count_ok {w : Int} {st : Sto} : m_is_count [.int w] st = some (.bl (decide (0 ≤ w)), st) := by
  have e := whole_ok (i := w) (st := st)
  simp [g_lst, g_eqN, g_addI, g_addL, g_cat, g_subI, g_ixL, g_ixT, g_lt, g_le, g_gt, g_ge, fnM, env0, sSeq, sSet, sOwn, lDisp, aNil, eCall, eCallP, aCons, eVar, sFor, iSeq, loopM, noChk, asgN, asgT, setAll, sIf, bOf, bAnd, bOr, bNot, bYes, eOp, eL, lComp, compM, wipeE, oEqDD, ePeek, eqDD, flatD, eqGD, hitD, getG, eqFD, sApp, sFrz, frz, sRet, iKy, iKyT, keyT, keyV, eC, eBi, gLen, eIf, eTup, oIsN, oNotN, isNonD, dComp, dcM, putKD, putV, dCompT, dcMT, putKDT, putVT, eD, eDT, iEnm, enumD, eOr, eAnd, eNot, oEqLD, eqLD, oInLD, sDrop, sPar, Kd.run, eFld, fldD, eGetOT, eInOT, sPutT, sOwnT, sFrzT, frzT, sUnp, atI, ixN, eNeg, eVals, eMake, mapO, sNil, lT0, sPut, gMax, gMin, eMeth, ofS_inj, m_is_count, b_is_count, e]
theorem issight_ok {A : List Str} {st : Sto} {H : D} {s : Sg} (b : Lt A) (r : Hr st H A s.h) (hs : sgOk s) : m_is_sight [.tup [H, oD s.lo, oD s.hi], .lst (A.map D.str)] st = some (.bl true, st) := by
  have bh := b.hi
  obtain ⟨h, lo, hi⟩ := s
  refine Ok.eq (z_fn rfl ?_)
  unfold b_is_sight
  bv_omega
  refine u_now (a := .bl true) rfl ?_
  refine b_f rfl ?_
  bv_omega
  refine u_now (a := .int 3) rfl ?_
  bv_omega
  refine u_now (a := .bl false) rfl ?_
  refine b_f rfl ?_
  bv_omega
  refine ⟨_, _, rfl, rfl, ?_⟩
  bv_omega
  refine u_now r.isD ?_
  refine b_f rfl ?_
  bv_omega
  refine u_now r.len ?_
  bv_omega
  refine u_now (a := .int A.length) (by show some (D.int ((A.map D.str).length : Nat)) = _; rw [List.length_map]) ?_
  refine u_ne rfl rfl ?_
  rw [SeqAt.eqv_refl _ rfl]
  refine b_f rfl ?_
  bv_omega
  refine z_seqI ?_
  bv_omega
  refine ⟨_, .inl rfl, by rw [List.length_map]; omega, ?_⟩
  refine Ok.use (comp_none rfl _ fun x hx => ?_) ?_
  · obtain ⟨z, hz, rfl⟩ := List.mem_map.mp hx
    refine ⟨_, rfl, ?_⟩
    bv_omega
    refine u_now r.has ?_
    rw [decide_eq_true hz]
    exact ⟨rfl, rfl⟩
  bv_omega
  refine ⟨by decide, ?_⟩
  refine u_neNil (ps := []) rfl ?_
  refine b_f rfl ?_
  bv_omega
  refine z_seqI ?_
  bv_omega
  refine ⟨_, .inl rfl, by rw [List.length_map]; omega, ?_⟩
  refine Ok.use (comp_none rfl _ fun x hx => ?_) ?_
  · obtain ⟨z, hz, rfl⟩ := List.mem_map.mp hx
    refine ⟨_, rfl, ?_⟩
    bv_omega
    refine u_now (r.dx hz) ?_
    bv_omega
    refine Ok.use whole_ok ?_
    exact ⟨rfl, rfl⟩
  bv_omega
  refine ⟨by decide, ?_⟩
  refine u_neNil (ps := []) rfl ?_
  refine b_f rfl ?_
  bv_omega
  refine z_seqI ?_
  bv_omega
  refine ⟨by simp, _, .inr rfl, by simp, ?_⟩
  refine Ok.use (comp_none rfl _ fun x hx => ?_) ?_
  · refine ⟨_, rfl, ?_⟩
    have hx : ∃ o : Option Int, x = oD o := by
      rcases List.mem_cons.mp hx with q | q
      · exact ⟨_, q⟩
      · exact ⟨_, List.mem_singleton.mp q⟩
    obtain ⟨o, rfl⟩ := hx
    cases o with
    | none => exact ⟨_, _, rfl, rfl, rfl⟩
    | some i => exact ⟨_, _, rfl, rfl, rfl⟩
  bv_omega
  refine ⟨by decide, ?_⟩
  refine u_neNil (ps := []) rfl ?_
  refine b_f rfl ?_
  bv_omega
  rcases lo with _ | l <;> rcases hi with _ | u
  · exact ⟨rfl, rfl⟩
  · exact ⟨rfl, rfl⟩
  · change Ok _ _
    exact ⟨_, _, rfl, rfl, rfl⟩
  · have hs : l ≤ u := hs
    change Ok _ _
    refine ⟨.bl (decide (l ≤ u)), _, rfl, ?_, rfl⟩
    rw [decide_eq_true hs]
/-- rows of sights as they are handed in: the hours as data or in a cell -/
structure RowR (st : Sto) (A : List Str) (p : D × Sg) : Prop where
  x : ∃ H, p.1 = .tup [H, oD p.2.lo, oD p.2.hi] ∧ Hr st H A p.2.h
  ok : sgOk p.2
theorem RowR.app {st ys : Sto} {A : List Str} {p : D × Sg} (r : RowR st A p) : RowR (st ++ ys) A p := by
  obtain ⟨⟨H, e, h⟩, k⟩ := r
  exact ⟨⟨H, e, h.app⟩, k⟩
theorem rowd {st : Sto} {A : List Str} {s : Sg} (h : sgOk s) : RowR st A (sgD A s, s) := ⟨⟨_, rfl, .d _ _⟩, h⟩
theorem init_ok {A : List Str} {m : Option Int} {P : List (D × Sg)} {st : Sto} (b : Lt A) (hm : ∀ w, m = some w → 0 ≤ w) (hP : ∀ p ∈ P, RowR st A p) (hR : P.length ≤ 100) :
    m_Sights___init__ [.lst (A.map D.str), oD m, .lst (P.map (·.1))] st = some ((([("lot" : Str), "limit", "seen"] : List Str), [.lst (A.map D.str), oD m, rwD A (P.map (·.2))]), st) := by
  refine Ok.eq (z_init rfl ?_)
  unfold b_Sights___init__
  bv_omega
  refine Ok.use (islot_ok b) ?_
  refine b_f rfl ?_
  bv_omega
  rcases m with _ | w
  case' none => change Ok _ _
  case' some =>
    have e := count_ok (w := w) (st := st)
    rw [decide_eq_true (hm w rfl)] at e
    change Ok _ _
    bv_omega
    refine Ok.use e ?_
    refine b_f rfl ?_
  all_goals
    bv_omega
    refine u_now (a := .bl true) rfl ?_
    refine b_f rfl ?_
    bv_omega
    refine z_seqI ?_
    bv_omega
    refine ⟨_, .inl rfl, by rw [List.length_map]; omega, ?_⟩
    refine Ok.use (comp_none rfl _ fun x hx => ?_) ?_
    · obtain ⟨p, hp, rfl⟩ := List.mem_map.mp hx
      obtain ⟨⟨H, eH, hH⟩, ok⟩ := hP p hp
      refine ⟨_, rfl, ?_⟩
      bv_omega
      rw [eH]
      refine Ok.use (issight_ok b hH ok) ?_
      exact ⟨rfl, rfl⟩
    bv_omega
    refine ⟨by decide, ?_⟩
    refine u_neNil (ps := []) rfl ?_
    refine b_f rfl ?_
    bv_omega
    refine u_now rfl ?_
    refine ⟨[], [], rfl, by decide, ?_⟩
    bv_omega
    refine ⟨([("lot" : Str)]), _, rfl, by decide, ?_⟩
    bv_omega
    refine z_seqI ?_
    bv_omega
    refine ⟨_, .inl rfl, by rw [List.length_map]; omega, ?_⟩
    refine Ok.use (comp_z (fun p : D × Sg => p.1) (fun p => sgD A p.2) rfl P fun p hp => ?_) ?_
    · obtain ⟨⟨H, eH, hH⟩, ok⟩ := hP p hp
      refine ⟨_, by rw [eH]; rfl, ?_⟩
      bv_omega
      refine u_now hH.g ?_
      bv_omega
      refine ⟨by simp, ?_⟩
      exact ⟨rfl, rfl⟩
    refine ⟨([("lot" : Str), "limit"]), _, rfl, by decide, ?_⟩
    refine ⟨_, rfl, ?_, rfl⟩
    have e : (P.map fun p => sgD A p.2) = (P.map (·.2)).map (sgD A) := by
      rw [List.map_map]
      rfl
    rw [e]
    rfl
theorem init_R {A : List Str} {m : Option Int} {R : List Sg} {st : Sto} (b : Lt A) (hm : ∀ w, m = some w → 0 ≤ w) (hP : ∀ s ∈ R, sgOk s) (hR : R.length ≤ 100) :
    m_Sights___init__ [.lst (A.map D.str), oD m, rwD A R] st = some ((([("lot" : Str), "limit", "seen"] : List Str), [.lst (A.map D.str), oD m, rwD A R]), st) := by
  have e := init_ok (m := m) (P := R.map fun s => (sgD A s, s)) (st := st) b hm (fun p hp => by
    obtain ⟨s, hs, rfl⟩ := List.mem_map.mp hp
    exact rowd (hP s hs)) (by rw [List.length_map]; exact hR)
  rw [List.map_map, List.map_map] at e
  have e1 : R.map ((fun x : D × Sg => x.2) ∘ fun s => (sgD A s, s)) = R := List.map_id R
  rw [e1] at e
  exact e
section
variable {A : List Str} {m : Option Int} {R : List Sg} {st : Sto}
theorem names_ok : m_Sights_names [siD A m R] st = some (.lst (A.map D.str), st) := by
  refine Ok.eq (z_fn rfl ?_)
  unfold b_Sights_names
  bv_omega
  refine ⟨rfl, u_now f_lot ?_⟩
  bv_omega
  refine u_now rfl ?_
  exact ⟨rfl, rfl⟩
theorem most_ok : m_Sights_most [siD A m R] st = some (oD m, st) := by
  refine Ok.eq (z_fn rfl ?_)
  unfold b_Sights_most
  bv_omega
  refine ⟨rfl, u_now f_lim ?_⟩
  exact ⟨rfl, rfl⟩
theorem copy_ok {R : List Sg} {st : Sto} {env0 : LW.Env} {asg : D → LW.Env → Option LW.Env} {i j k : Nat} (ha : ∀ s : Sg, ∃ e, asg (sgD A s) env0 = some e ∧ e[i]? = some (.val (hrD A s.h)) ∧ e[j]? = some (.val (oD s.lo)) ∧ e[k]? = some (.val (oD s.hi))) :
    compM noChk asg bYes (eTup (aCons (eD (eBi gDictD (aCons (ePeek i) (aNil)))) (aCons (eVar j) (aCons (eVar k) (aNil))))) env0 (R.map (sgD A)) st = some (R.map (sgD A), st) := by
  refine comp_z (sgD A) (sgD A) rfl R fun s _ => ?_
  obtain ⟨e, h1, h2, h3, h4⟩ := ha s
  refine ⟨e, h1, _, st, ?_, rfl, rfl⟩
  have hd : gDictD [hrD A s.h] st = some (hrK A s.h) := rfl
  have hv : ∀ (q : Nat) (d : D), e[q]? = some (.val d) → eVar q e st = some (d, st) := fun q d h => by
    unfold eVar
    rw [h]
  have hk : ∀ (q : Nat) (d : D), e[q]? = some (.val d) → ePeek q e st = some (d, st) := fun q d h => by
    unfold ePeek
    rw [h]
  have g1 := hk i _ h2
  have g2 := hv j _ h3
  have g3 := hv k _ h4
  simp [eTup, eD, eBi, aCons, aNil, g1, g2, g3, hd]
theorem rows_ok (hR : R.length ≤ 100) : m_Sights_rows [siD A m R] st = some (rwD A R, st) := by
  refine Ok.eq (z_fn rfl ?_)
  unfold b_Sights_rows
  bv_omega
  refine z_seqI ?_
  bv_omega
  refine ⟨rfl, u_now f_see ?_⟩
  refine ⟨_, .inl rfl, by rw [List.length_map]; omega, ?_⟩
  refine Ok.use (copy_ok fun s => ⟨_, rfl, rfl, rfl, rfl⟩) ?_
  exact ⟨rfl, rfl⟩
theorem lawcopy_ok (hR : R.length ≤ 100) : m__law_copied [rwD A R] st = some (rwD A R, st) := by
  refine Ok.eq (z_fn rfl ?_)
  unfold b__law_copied
  bv_omega
  refine z_seqI ?_
  bv_omega
  refine ⟨_, .inl rfl, by rw [List.length_map]; omega, ?_⟩
  refine Ok.use (copy_ok fun s => ⟨_, rfl, rfl, rfl, rfl⟩) ?_
  exact ⟨rfl, rfl⟩
theorem withrow_ok {d : D} {s : Sg} (b : Lt A) (hm : ∀ w, m = some w → 0 ≤ w) (hP : ∀ s ∈ R, sgOk s) (hR : R.length < 100) (hd : RowR st A (d, s)) : m_Sights_with_row [siD A m R, d] st = some (siD A m (R ++ [s]), st) := by
  obtain ⟨⟨H, eH, hH⟩, ok⟩ := id hd
  have eH : d = _ := eH
  refine Ok.eq (z_fn rfl ?_)
  unfold b_Sights_with_row
  bv_omega
  refine ⟨rfl, u_now f_lot ?_⟩
  rw [eH]
  bv_omega
  refine Ok.use (issight_ok b hH ok) ?_
  refine b_f rfl ?_
  bv_omega
  refine ⟨rfl, u_now f_lot ?_⟩
  bv_omega
  refine ⟨rfl, u_now f_lim ?_⟩
  bv_omega
  refine ⟨rfl, u_now f_see ?_⟩
  bv_omega
  refine ⟨_, rfl, ?_⟩
  bv_omega
  refine ⟨by rw [List.length_append, List.length_map, List.length_singleton]; omega, ?_⟩
  bv_omega
  have e := init_ok (m := m) (P := R.map (fun s => (sgD A s, s)) ++ [(D.tup [H, oD s.lo, oD s.hi], s)]) (st := st) b hm (fun p hp => by
    rcases List.mem_append.mp hp with q | q
    · obtain ⟨s, hs, rfl⟩ := List.mem_map.mp q
      exact rowd (hP s hs)
    · cases List.mem_singleton.mp q
      exact ⟨⟨H, rfl, hH⟩, ok⟩) (by rw [List.length_append, List.length_map, List.length_singleton]; omega)
  rw [List.map_append, List.map_append, List.map_map, List.map_map] at e
  have e1 : R.map ((fun x : D × Sg => x.2) ∘ fun s => (sgD A s, s)) = R := List.map_id R
  rw [e1] at e
  refine Ok.use e ?_
  exact ⟨rfl, rfl⟩
theorem ckcount_ok {i n : Nat} {st : Sto} (h : i < n) : m_check_count [.int i, .int 0, .int ((n : Int) - 1)] st = some (.non, st) := by
  have e := count_ok (w := (i : Int)) (st := st)
  rw [decide_eq_true (by omega)] at e
  have h1 : ¬ (i : Int) < 0 := by omega
  have h2 : ¬ (n : Int) - 1 < i := by omega
  simp [g_lst, g_eqN, g_addI, g_addL, g_cat, g_subI, g_ixL, g_ixT, g_lt, g_le, g_gt, g_ge, fnM, env0, sSeq, sSet, sOwn, lDisp, aNil, eCall, eCallP, aCons, eVar, sFor, iSeq, loopM, noChk, asgN, asgT, setAll, sIf, bOf, bAnd, bOr, bNot, bYes, eOp, eL, lComp, compM, wipeE, oEqDD, ePeek, eqDD, flatD, eqGD, hitD, getG, eqFD, sApp, sFrz, frz, sRet, iKy, iKyT, keyT, keyV, eC, eBi, gLen, eIf, eTup, oIsN, oNotN, isNonD, dComp, dcM, putKD, putV, dCompT, dcMT, putKDT, putVT, eD, eDT, iEnm, enumD, eOr, eAnd, eNot, oEqLD, eqLD, oInLD, sDrop, sPar, Kd.run, eFld, fldD, eGetOT, eInOT, sPutT, sOwnT, sFrzT, frzT, sUnp, atI, ixN, eNeg, eVals, eMake, mapO, sNil, lT0, sPut, gMax, gMin, eMeth, ofS_inj, m_check_count, b_check_count, e, h1, h2]
theorem cut_drop {α : Type} {zs : List α} {m : Nat} : cutD zs (some (m : Int)) none = zs.drop m := by
  unfold cutD
  rw [HT.sIx_nat]
  show List.take (zs.length - min m zs.length) (List.drop (min m zs.length) zs) = _
  by_cases h : m ≤ zs.length
  · rw [Nat.min_eq_left h, List.take_of_length_le (by rw [List.length_drop]; omega)]
  · rw [Nat.min_eq_right (by omega), List.drop_eq_nil_of_le (by omega), List.drop_eq_nil_of_le (by omega)]
    exact List.take_nil
theorem cutR {A : List Str} {R : List Sg} {lo hi : Option Int} {st : Sto} : slL (rwD A R) lo hi st = some ((cutD R lo hi).map (sgD A)) := by
  show some (cutD (R.map (sgD A)) lo hi) = _
  unfold cutD
  rw [List.length_map, List.map_take, List.map_drop]
theorem without_ok {i : Nat} (b : Lt A) (hm : ∀ w, m = some w → 0 ≤ w) (hP : ∀ s ∈ R, sgOk s) (hR : R.length ≤ 100) (hi : i < R.length) : m_Sights_without [siD A m R, .int i] st = some (siD A m (R.take i ++ R.drop (i + 1)), st) := by
  refine Ok.eq (z_fn rfl ?_)
  unfold b_Sights_without
  bv_omega
  refine ⟨rfl, u_now f_see ?_⟩
  bv_omega
  refine u_now (a := .int R.length) (len_rw hR) ?_
  bv_omega
  refine Ok.use (ckcount_ok hi) ?_
  bv_omega
  refine ⟨rfl, u_now f_lot ?_⟩
  bv_omega
  refine ⟨rfl, u_now f_lim ?_⟩
  bv_omega
  refine ⟨rfl, u_now f_see ?_⟩
  bv_omega
  refine u_now cutR ?_
  bv_omega
  refine ⟨rfl, u_now f_see ?_⟩
  bv_omega
  refine u_now cutR ?_
  bv_omega
  rw [cut_take, show (i : Int) + 1 = ((i + 1 : Nat) : Int) by omega, cut_drop]
  refine u_addL rfl rfl (by rw [List.length_map, List.length_map, List.length_take, List.length_drop]; omega) ?_
  bv_omega
  rw [← List.map_append]
  refine Ok.use (init_R b hm (fun s hs => ?_) (by rw [List.length_append, List.length_take, List.length_drop]; omega)) ?_
  · rcases List.mem_append.mp hs with q | q
    · exact hP s (List.mem_of_mem_take q)
    · exact hP s (List.mem_of_mem_drop q)
  exact ⟨rfl, rfl⟩
end
end K64

namespace K64
open PySem L2 LW
local macro_rules | `(tactic| bv_omega) => `(tactic| (repeat (first | with_reducible first | refine z_var (by with_unfolding_all rfl) ?_ | refine z_pk (by with_unfolding_all rfl) ?_ | refine z_pkO (by with_unfolding_all rfl) ?_ | refine z_retO (by with_unfolding_all rfl) ?_ | refine z_dictO (by with_unfolding_all rfl) ?_ | refine z_c ?_ | refine z_op ?_ | refine z_nil ?_ | refine z_cons ?_ | refine z_tup ?_ | refine z_lst ?_ | refine z_L ?_ | refine z_bi ?_ | refine z_call ?_ | refine z_meth ?_ | refine z_prop ?_ | refine z_fld ?_ | refine z_make ?_ | refine z_not ?_ | refine z_neg ?_ | refine z_bits ?_ | refine t_of ?_ | refine t_not ?_ | refine z_slN ?_ | refine z_oN ?_ | refine z_oS ?_ | refine z_snil ?_ | refine z_seq ?_ | refine z_set ?_ | refine z_own ?_ | refine z_ret ?_ | refine z_retC ?_ | refine z_drop ?_ | refine z_frz ?_ | refine z_app ?_ | refine z_appC ?_ | refine z_putC ?_ | refine z_for ?_ | refine z_lc ?_ | refine z_yes ?_ | refine z_kv ?_ | refine z_ko ?_ | refine z_par ?_ | refine z_unp ?_ | refine z_sfld ?_ | refine z_rg1 ?_ | refine z_rg2 ?_ | refine z_rg3 ?_ | refine z_and ?_ | refine z_or ?_ | refine z_eif ?_ | refine t_and ?_ | refine t_or ?_ | refine z_sif ?_ | refine u_add ?_ | refine u_sub ?_ | refine u_lt ?_ | refine u_le ?_ | refine u_gt ?_ | refine u_ge ?_ | refine u_isN ?_ | refine u_notN ?_ | refine z_par3 ?_ | refine z_dcl ?_ | refine z_cel ?_ | refine z_putDC ?_ | refine z_clrC ?_ | refine z_ownD ?_ | refine z_lenSN ?_ | refine z_D ?_ | refine z_dComp ?_ | refine z_lc2 ?_ | refine z_sn ?_ | refine z_makeC ?_ | refine z_methC ?_ | refine z_fldC ?_ | refine z_sfldC ?_ | refine z_xSet ?_ | refine z_methX ?_ | refine z_methCX ?_ | refine z_xIfE ?_ | refine z_xEL ?_ | refine z_xPar2 (by decide) ?_ | refine z_kD2 ?_ | refine z_par2 (by decide) ?_ | refine z_d0 ?_ | refine z_xBare ?_ | refine z_xFrz ?_ | refine z_xFor ?_ | refine z_sortIt ?_ | refine z_lenO ?_ | refine z_xSeq ?_ | refine z_xIf ?_ | refine z_xRaise ?_ | refine z_xL ?_ | refine z_xNil ?_ | refine z_xDrop ?_ | refine z_xRet ?_ | refine z_eCallX ?_ | refine z_sTry ?_ | refine z_DT ?_ | refine z_t0 ?_ | refine z_Td ?_ | refine z_ownT ?_ | refine z_putT ?_ | refine z_frzT ?_ | refine z_par3T ?_ | refine z_toT ?_ | refine z_join ?_ | refine z_sw3 ?_ | refine z_err ?_ | refine z_err0 ?_ | refine z_errB ?_ | refine z_zipL ?_ | refine z_aStar ?_ | refine z_rgV ?_ | refine z_irgV ?_ | (with_reducible refine u_mul ?_ ?_; next => first | exact mulC_r (by decide) (by decide) | exact mulC_l (by decide) (by decide) | exact mulC_r (by omega) (by omega) | exact mulC_l (by omega) (by omega)) | (with_reducible refine u_mod ?_ ?_; next => first | decide | assumption | omega) | (with_reducible refine u_div ?_ ?_; next => first | exact divC_s (by decide) (by decide) | exact divC_s (by omega) (by omega)))))
/-! ### equal sights -/
theorem allKD_hr {f : D → D → Bool} (hf : ∀ i, f (.int i) (.int i) = true) {Z' : List Str} {g g' : Str → Int} : ∀ (Z : List Str), (∀ z ∈ Z, z ∈ Z' ∧ g z = g' z) → allKD f (hrK Z' g') (Z.map Sum.inr) (Z.map fun z => D.int (g z)) = true
  | [], _ => rfl
  | z :: Z, h => by
    rw [List.map_cons, List.map_cons]
    unfold allKD
    obtain ⟨h1, h2⟩ := h z (by simp)
    rw [show getD (hrK Z' g').1 (hrK Z' g').2 (Sum.inr z) = some (.int (g' z)) from get_hr h1]
    dsimp only
    rw [h2, hf, allKD_hr hf Z fun y hy => h y (by simp [hy])]
    rfl
theorem eqZ_int {s : Sto} {n : Nat} (i : Int) : eqZ s (n + 1) (.int i) (.int i) = true := by
  unfold eqZ
  exact decide_eq_true rfl
theorem refZ_hr {s : Sto} {n : Nat} {d d' : D} {Z Z' : List Str} {g g' : Str → Int} (r : Hr s d Z g) (r' : Hr s d' Z' g') (p : Z.Perm Z') (e : ∀ z ∈ Z, g z = g' z) : refZ s (eqZ s (n + 1)) d d' = true := by
  have h1 : lstR s d = none := by cases r <;> rfl
  unfold refZ
  rw [h1]
  dsimp only
  rw [r.g, r'.g]
  dsimp only
  rw [allKD_hr (fun i => eqZ_int i) Z fun z hz => ⟨p.mem_iff.mp hz, e z hz⟩]
  rw [decide_eq_true (by rw [List.length_map, List.length_map]; exact p.length_eq)]
  rfl
theorem eqZ_hr {s : Sto} {n : Nat} {d d' : D} {Z Z' : List Str} {g g' : Str → Int} (r : Hr s d Z g) (r' : Hr s d' Z' g') (p : Z.Perm Z') (e : ∀ z ∈ Z, g z = g' z) : eqZ s (n + 2) d d' = true := by
  have := refZ_hr (n := n) r r' p e
  cases r <;> cases r' <;> (unfold eqZ; exact this)
theorem refZ_lst {s : Sto} {f : D → D → Bool} {x y : D} {xs ys : List D} (hx : lstR s x = some xs) (hy : lstR s y = some ys) (h : all2 f xs ys = true) : refZ s f x y = true := by
  unfold refZ
  rw [hx, hy]
  exact h
/-! ### the first round -/
theorem eqZ_str {s : Sto} {n : Nat} (z : Str) : eqZ s (n + 1) (.str z) (.str z) = true := by
  unfold eqZ
  exact decide_eq_true rfl
theorem eqZ_oD {s : Sto} {n : Nat} (o : Option Int) : eqZ s (n + 1) (oD o) (oD o) = true := by
  cases o with
  | none => unfold eqZ; rfl
  | some i => exact eqZ_int i
theorem eqZ_sg {A : List Str} {s : Sto} {n : Nat} (r : Sg) : eqZ s (n + 3) (sgD A r) (sgD A r) = true := by
  unfold eqZ
  show all2 (eqZ s (n + 2)) [hrD A r.h, oD r.lo, oD r.hi] [hrD A r.h, oD r.lo, oD r.hi] = true
  unfold all2
  rw [eqZ_hr (.d _ _) (.d _ _) (List.Perm.refl _) fun _ _ => rfl]
  unfold all2
  rw [eqZ_oD]
  unfold all2
  rw [eqZ_oD]
  rfl
theorem all2_same {f : D → D → Bool} : ∀ {xs : List D}, (∀ x ∈ xs, f x x = true) → all2 f xs xs = true
  | [], _ => rfl
  | x :: xs, h => by
    unfold all2
    rw [h x (by simp), all2_same fun y hy => h y (by simp [hy])]
    rfl
theorem refZ_rw {A : List Str} {R : List Sg} {s : Sto} {n : Nat} : refZ s (eqZ s (n + 3)) (rwD A R) (rwD A R) = true :=
  refZ_lst rfl rfl (all2_same fun x hx => by
    obtain ⟨r, _, rfl⟩ := List.mem_map.mp hx
    exact eqZ_sg r)
theorem eqS_ok {A : List Str} {m : Option Int} {R : List Sg} {st : Sto} : m_Sights___eq__ [siD A m R, siD A m R] st = some (.bl true, st) := by
  refine Ok.eq (z_fn rfl ?_)
  unfold b_Sights___eq__
  bv_omega
  refine u_now (a := .bl true) rfl ?_
  refine b_f rfl ?_
  bv_omega
  refine ⟨rfl, u_now f_lot ?_⟩
  bv_omega
  refine ⟨rfl, u_now f_lim ?_⟩
  bv_omega
  refine ⟨rfl, u_now f_see ?_⟩
  bv_omega
  refine ⟨by simp, ?_⟩
  bv_omega
  refine ⟨rfl, u_now f_lot ?_⟩
  bv_omega
  refine ⟨rfl, u_now f_lim ?_⟩
  bv_omega
  refine ⟨rfl, u_now f_see ?_⟩
  bv_omega
  refine ⟨by simp, ?_⟩
  refine u_eqTZ ?_ ?_
  · unfold all2
    rw [show eqZ st 40 (.lst (A.map D.str)) (.lst (A.map D.str)) = true from by
      unfold eqZ
      exact refZ_lst rfl rfl (all2_same fun x hx => by
        obtain ⟨z, _, rfl⟩ := List.mem_map.mp hx
        exact eqZ_str z)]
    unfold all2
    rw [eqZ_oD]
    unfold all2
    rw [show eqZ st 40 (rwD A R) (rwD A R) = true from by
      unfold eqZ
      exact refZ_rw]
    rfl
  · exact ⟨rfl, rfl⟩
theorem oeq_ok {A : List Str} {m : Option Int} {R : List Sg} {st : Sto} {neg : Bool} {Q : D → Sto → Prop} {env : LW.Env} {fa fb : SE} (ha : fa env st = some (siD A m R, st)) (hb : fb env st = some (siD A m R, st)) (q : Q (.bl (if neg then false else true)) st) : Ok (eOwn "Sights" CS neg m_Sights___eq__ fa fb env st) Q := by
  refine ⟨_, st, ?_, q⟩
  unfold eOwn
  rw [ha]
  dsimp only
  rw [if_pos rfl, hb]
  dsimp only
  rw [if_pos (show okTy st CS (siD A m R) = true from rfl), eqS_ok]
  dsimp only
  cases neg <;> rfl
end K64

namespace K64
open PySem L2 LW
/-! ### texts -/
abbrev bS (b : Bool) : Str := PyData.shown (.bool b)
theorem strB {b : Bool} {st : Sto} : gStrD [.bl b] st = some (.str (bS b)) := by cases b <;> rfl
theorem bS_ok (b : Bool) : PyData.strOk (bS b) = true := by cases b <;> decide +kernel
theorem ne_bS {b : Bool} {st : Sto} : oNe (.str (bS b)) (.str (bS b)) st = some (.bl false) := by
  obtain ⟨d, h1, h2⟩ := u_neW (s := st) (Q := fun d => d = .bl (!decide (bS b = bS b))) (bS_ok b) (bS_ok b) rfl
  rw [h1, h2, decide_eq_true rfl]
  rfl
abbrev pP (i j : Int) : PyData := .tuple [.int i, .int j]
abbrev pS (i j : Int) : Str := PyData.shown (pP i j)
theorem pS_all : ((List.range 8).all fun a => (List.range 8).all fun b => (pP ((a : Int) - 1) ((b : Int) - 1)).showable && decide ((pS ((a : Int) - 1) ((b : Int) - 1)).length ≤ 1000) && PyData.strOk (pS ((a : Int) - 1) ((b : Int) - 1))) = true := by decide +kernel
theorem pS_inj : ((List.range 8).all fun a => (List.range 8).all fun b => (List.range 8).all fun c => (List.range 8).all fun d => !decide (pS ((a : Int) - 1) ((b : Int) - 1) = pS ((c : Int) - 1) ((d : Int) - 1)) || (decide (a = c) && decide (b = d))) = true := by decide +kernel
/-- small places: from one below nought to six -/
def Sm (i : Int) : Prop := -1 ≤ i ∧ i ≤ 6
theorem Sm.nat {i : Int} (h : Sm i) : ∃ a : Nat, a < 8 ∧ i = (a : Int) - 1 := ⟨(i + 1).toNat, by have := h.1; have := h.2; omega, by have := h.1; omega⟩
theorem pS_ok {i j : Int} (hi : Sm i) (hj : Sm j) : (pP i j).showable = true ∧ (pS i j).length ≤ 1000 ∧ PyData.strOk (pS i j) = true := by
  obtain ⟨a, ha, rfl⟩ := hi.nat
  obtain ⟨b, hb, rfl⟩ := hj.nat
  have := List.all_eq_true.mp (List.all_eq_true.mp pS_all a (List.mem_range.mpr ha)) b (List.mem_range.mpr hb)
  rw [Bool.and_eq_true, Bool.and_eq_true] at this
  exact ⟨this.1.1, of_decide_eq_true this.1.2, this.2⟩
theorem pS_eq {i j i' j' : Int} (hi : Sm i) (hj : Sm j) (hi' : Sm i') (hj' : Sm j') (h : pS i j = pS i' j') : i = i' ∧ j = j' := by
  obtain ⟨a, ha, rfl⟩ := hi.nat
  obtain ⟨b, hb, rfl⟩ := hj.nat
  obtain ⟨c, hc, rfl⟩ := hi'.nat
  obtain ⟨d, hd, rfl⟩ := hj'.nat
  have := List.all_eq_true.mp (List.all_eq_true.mp (List.all_eq_true.mp (List.all_eq_true.mp pS_inj a (List.mem_range.mpr ha)) b (List.mem_range.mpr hb)) c (List.mem_range.mpr hc)) d (List.mem_range.mpr hd)
  rw [decide_eq_true h] at this
  simp at this
  exact ⟨by rw [this.1], by rw [this.2]⟩
theorem strP {i j : Int} {st : Sto} (hi : Sm i) (hj : Sm j) : gStrD [.tup [.int i, .int j]] st = some (.str (pS i j)) := by
  obtain ⟨h1, h2, h3⟩ := pS_ok hi hj
  obtain ⟨d, e1, e2⟩ := u_strD (s := st) (Q := fun d => d = .str (pS i j)) (x := .tup [.int i, .int j]) (p := pP i j) rfl rfl h1 (Nat.le_trans h2 (by decide)) rfl
  rw [e1, e2]
def memP (i j : Int) (l : List (Nat × Nat)) : Bool := l.any fun p => decide ((p.1 : Int) = i) && decide ((p.2 : Int) = j)
abbrev bdD (l : List (Nat × Nat)) : D := .lst (l.map fun p => .str (pS p.1 p.2))
def SmL (l : List (Nat × Nat)) : Prop := ∀ p ∈ l, p.1 < 6 ∧ p.2 < 6
theorem SmL.sm {l : List (Nat × Nat)} (h : SmL l) : ∀ p ∈ l, Sm (p.1 : Int) ∧ Sm (p.2 : Int) := fun p hp => by
  have := h p hp
  exact ⟨⟨by omega, by omega⟩, ⟨by omega, by omega⟩⟩
theorem py_bd {l : List (Nat × Nat)} {n : Nat} {st : Sto} (h : SmL l) : toPy (n + 2) st (bdD l) = some (.list ((l.map fun p => pS p.1 p.2).map PyData.str)) := by
  have e : (l.map fun p => D.str (pS p.1 p.2)) = (l.map fun p : Nat × Nat => pS p.1 p.2).map D.str := by
    rw [List.map_map]
    rfl
  show toPy (n + 2) st (.lst (l.map fun p => D.str (pS p.1 p.2))) = _
  rw [e]
  exact py_lstS fun z hz => by
    obtain ⟨p, hp, rfl⟩ := List.mem_map.mp hz
    exact (pS_ok (h.sm p hp).1 (h.sm p hp).2).2.2
theorem mem_bd {l : List (Nat × Nat)} {i j : Int} (h : SmL l) (hi : Sm i) (hj : Sm j) : decide (pS i j ∈ l.map fun p : Nat × Nat => pS p.1 p.2) = memP i j l := by
  rw [Bool.eq_iff_iff, decide_eq_true_iff, List.mem_map]
  unfold memP
  rw [List.any_eq_true]
  constructor
  · rintro ⟨p, hp, e⟩
    obtain ⟨e1, e2⟩ := pS_eq (h.sm p hp).1 (h.sm p hp).2 hi hj e
    exact ⟨p, hp, by rw [decide_eq_true e1, decide_eq_true e2]; rfl⟩
  · rintro ⟨p, hp, e⟩
    rw [Bool.and_eq_true] at e
    exact ⟨p, hp, by rw [of_decide_eq_true e.1, of_decide_eq_true e.2]⟩
theorem in_bd {l : List (Nat × Nat)} {i j : Int} {neg : Bool} {st : Sto} (h : SmL l) (hi : Sm i) (hj : Sm j) : oInL neg (.str (pS i j)) (bdD l) st = some (.bl (if neg then !memP i j l else memP i j l)) := by
  unfold oInL
  rw [py_str (pS_ok hi hj).2.2, py_bd h]
  dsimp only
  rw [any_str, mem_bd h hi hj]
theorem tups_prs : ∀ l : List (Nat × Nat), tupsOf (l.map pD) = some (l.map fun p => [(p.1 : Int), (p.2 : Int)])
  | [] => rfl
  | p :: l => by
    rw [List.map_cons]
    unfold tupsOf
    rw [show natsOf [D.int p.1, D.int p.2] = some [(p.1 : Int), (p.2 : Int)] from rfl, tups_prs l]
    rfl
theorem in_prs {l : List (Nat × Nat)} {i j : Int} {st : Sto} : oInP false (.tup [.int i, .int j]) (.lst (l.map pD)) st = some (.bl (memP i j l)) := by
  have he : ∀ p : Nat × Nat, etD [(p.1 : Int), (p.2 : Int)] (.tup [.int i, .int j]) = some (decide ((p.1 : Int) = i) && decide ((p.2 : Int) = j)) := fun p => by
    have z : etD [(p.1 : Int), (p.2 : Int)] (.tup [.int i, .int j]) = some ((((p.1 : Int) == i) && (((p.2 : Int) == j) && true)) && true) := rfl
    rw [z, Bool.and_true, Bool.and_true]
    rfl
  unfold oInP
  show (match tupsOf (l.map pD) with | some l => _ | none => none) = _
  rw [tups_prs]
  dsimp only
  rw [if_pos (List.all_eq_true.mpr fun ns hn => by
    obtain ⟨p, _, rfl⟩ := List.mem_map.mp hn
    rw [he]
    rfl)]
  have e : ((l.map fun p : Nat × Nat => [(p.1 : Int), (p.2 : Int)]).any fun ns => (etD ns (.tup [.int i, .int j])).getD false) = memP i j l := by
    rw [List.any_map]
    unfold memP
    refine congrArg (List.any l) (funext fun p => ?_)
    have z := he p
    simp only [Function.comp_apply, z, Option.getD_some]
  rw [e]
  rfl
end K64

namespace K64
open PySem L2 LW
local macro_rules | `(tactic| bv_omega) => `(tactic| (repeat (first | with_reducible first | refine z_var (by with_unfolding_all rfl) ?_ | refine z_pk (by with_unfolding_all rfl) ?_ | refine z_pkO (by with_unfolding_all rfl) ?_ | refine z_retO (by with_unfolding_all rfl) ?_ | refine z_dictO (by with_unfolding_all rfl) ?_ | refine z_c ?_ | refine z_op ?_ | refine z_nil ?_ | refine z_cons ?_ | refine z_tup ?_ | refine z_lst ?_ | refine z_L ?_ | refine z_bi ?_ | refine z_call ?_ | refine z_meth ?_ | refine z_prop ?_ | refine z_fld ?_ | refine z_make ?_ | refine z_not ?_ | refine z_neg ?_ | refine z_bits ?_ | refine t_of ?_ | refine t_not ?_ | refine z_slN ?_ | refine z_oN ?_ | refine z_oS ?_ | refine z_snil ?_ | refine z_seq ?_ | refine z_set ?_ | refine z_own ?_ | refine z_ret ?_ | refine z_retC ?_ | refine z_drop ?_ | refine z_frz ?_ | refine z_app ?_ | refine z_appC ?_ | refine z_putC ?_ | refine z_for ?_ | refine z_lc ?_ | refine z_yes ?_ | refine z_kv ?_ | refine z_ko ?_ | refine z_par ?_ | refine z_unp ?_ | refine z_sfld ?_ | refine z_rg1 ?_ | refine z_rg2 ?_ | refine z_rg3 ?_ | refine z_and ?_ | refine z_or ?_ | refine z_eif ?_ | refine t_and ?_ | refine t_or ?_ | refine z_sif ?_ | refine u_add ?_ | refine u_sub ?_ | refine u_lt ?_ | refine u_le ?_ | refine u_gt ?_ | refine u_ge ?_ | refine u_isN ?_ | refine u_notN ?_ | refine z_par3 ?_ | refine z_dcl ?_ | refine z_cel ?_ | refine z_putDC ?_ | refine z_clrC ?_ | refine z_ownD ?_ | refine z_lenSN ?_ | refine z_D ?_ | refine z_dComp ?_ | refine z_lc2 ?_ | refine z_sn ?_ | refine z_makeC ?_ | refine z_methC ?_ | refine z_fldC ?_ | refine z_sfldC ?_ | refine z_xSet ?_ | refine z_methX ?_ | refine z_methCX ?_ | refine z_xIfE ?_ | refine z_xEL ?_ | refine z_xPar2 (by decide) ?_ | refine z_kD2 ?_ | refine z_par2 (by decide) ?_ | refine z_d0 ?_ | refine z_xBare ?_ | refine z_xFrz ?_ | refine z_xFor ?_ | refine z_sortIt ?_ | refine z_lenO ?_ | refine z_xSeq ?_ | refine z_xIf ?_ | refine z_xRaise ?_ | refine z_xL ?_ | refine z_xNil ?_ | refine z_xDrop ?_ | refine z_xRet ?_ | refine z_eCallX ?_ | refine z_sTry ?_ | refine z_DT ?_ | refine z_t0 ?_ | refine z_Td ?_ | refine z_ownT ?_ | refine z_putT ?_ | refine z_frzT ?_ | refine z_par3T ?_ | refine z_toT ?_ | refine z_join ?_ | refine z_sw3 ?_ | refine z_err ?_ | refine z_err0 ?_ | refine z_errB ?_ | refine z_zipL ?_ | refine z_aStar ?_ | refine z_rgV ?_ | refine z_irgV ?_ | (with_reducible refine u_mul ?_ ?_; next => first | exact mulC_r (by decide) (by decide) | exact mulC_l (by decide) (by decide) | exact mulC_r (by omega) (by omega) | exact mulC_l (by omega) (by omega)) | (with_reducible refine u_mod ?_ ?_; next => first | decide | assumption | omega) | (with_reducible refine u_div ?_ ?_; next => first | exact divC_s (by decide) (by decide) | exact divC_s (by omega) (by omega)))))
/-! ### check_clash -/
theorem g_neN {xs : List D} {s : Sto} : oNeN (.lst xs) (.lst []) s = some (.bl (!xs.isEmpty)) := rfl
theorem memP_neg {i j : Int} {l : List (Nat × Nat)} (h : i < 0 ∨ j < 0) : memP i j l = false := by
  unfold memP
  rw [List.any_eq_false]
  intro p _ q
  rw [Bool.and_eq_true] at q
  have h1 := of_decide_eq_true q.1
  have h2 := of_decide_eq_true q.2
  omega
section
variable {A : List Str} {m : Option Int} {R : List Sg} {st : Sto} (hA : ∀ z ∈ A, Nm z) (hl : A.length < 1000) (hR : R.length ≤ 100)
include hA hl hR
theorem ckclash_ok {i j : Int} : m_check_clash [siD A m R, .tup [.int i, .int j]] st = some (.bl (memP i j (prs A m R)), st) := by
  refine Ok.eq (z_fn rfl ?_)
  unfold b_check_clash
  bv_omega
  refine Ok.use cksi_ok ?_
  bv_omega
  refine u_now (a := .bl true) rfl ?_
  refine b_f rfl ?_
  bv_omega
  refine u_now (a := .int 2) rfl ?_
  bv_omega
  refine u_now (a := .bl false) rfl ?_
  refine b_f rfl ?_
  bv_omega
  refine z_seqI ?_
  bv_omega
  refine ⟨_, .inr rfl, by show 2 ≤ 1000000; decide, ?_⟩
  refine Ok.use (comp_zf D.int D.int (fun w => !decide (0 ≤ w)) rfl [i, j] fun w hw => ?_) ?_
  · refine ⟨_, rfl, ?_, fun _ => ?_⟩
    · bv_omega
      refine Ok.use count_ok ?_
      exact ⟨rfl, rfl⟩
    · bv_omega
      exact ⟨rfl, rfl⟩
  bv_omega
  refine ⟨by decide, ?_⟩
  refine u_now g_neN ?_
  by_cases h : 0 ≤ i ∧ 0 ≤ j
  · have e : [i, j].filter (fun w => !decide (0 ≤ w)) = [] := by simp [h.1, h.2]
    rw [e]
    refine b_f rfl ?_
    bv_omega
    refine ⟨rfl, by decide, ?_⟩
    bv_omega
    refine Ok.use (clashes_ok hA hl hR) ?_
    refine u_now in_prs ?_
    exact ⟨rfl, rfl⟩
  · have e : ([i, j].filter (fun w => !decide (0 ≤ w))).isEmpty = false := by
      by_cases h1 : 0 ≤ i
      · have h2 : ¬ 0 ≤ j := fun q => h ⟨h1, q⟩
        simp [h1, h2]
      · simp [h1]
    rw [List.isEmpty_map, e]
    refine b_t rfl ?_
    bv_omega
    rw [memP_neg (by omega)]
    exact ⟨rfl, rfl⟩
end
section
variable {A : List Str} {m : Option Int} {R : List Sg} {st : Sto}
theorem cklist_ok {i j : Int} : m_check_clash [siD A m R, .lst [.int i, .int j]] st = some (.bl false, st) := by kernel_rfl
theorem cktrip_ok {i j : Int} : m_check_clash [siD A m R, .tup [.int i, .int j, .int 0]] st = some (.bl false, st) := by kernel_rfl
end
end K64

namespace K64
open PySem L2 LW
local macro_rules | `(tactic| bv_omega) => `(tactic| (repeat (first | with_reducible first | refine z_var (by with_unfolding_all rfl) ?_ | refine z_pk (by with_unfolding_all rfl) ?_ | refine z_pkO (by with_unfolding_all rfl) ?_ | refine z_retO (by with_unfolding_all rfl) ?_ | refine z_dictO (by with_unfolding_all rfl) ?_ | refine z_c ?_ | refine z_op ?_ | refine z_nil ?_ | refine z_cons ?_ | refine z_tup ?_ | refine z_lst ?_ | refine z_L ?_ | refine z_bi ?_ | refine z_call ?_ | refine z_meth ?_ | refine z_prop ?_ | refine z_fld ?_ | refine z_make ?_ | refine z_not ?_ | refine z_neg ?_ | refine z_bits ?_ | refine t_of ?_ | refine t_not ?_ | refine z_slN ?_ | refine z_oN ?_ | refine z_oS ?_ | refine z_snil ?_ | refine z_seq ?_ | refine z_set ?_ | refine z_own ?_ | refine z_ret ?_ | refine z_retC ?_ | refine z_drop ?_ | refine z_frz ?_ | refine z_app ?_ | refine z_appC ?_ | refine z_putC ?_ | refine z_for ?_ | refine z_lc ?_ | refine z_yes ?_ | refine z_kv ?_ | refine z_ko ?_ | refine z_par ?_ | refine z_unp ?_ | refine z_sfld ?_ | refine z_rg1 ?_ | refine z_rg2 ?_ | refine z_rg3 ?_ | refine z_and ?_ | refine z_or ?_ | refine z_eif ?_ | refine t_and ?_ | refine t_or ?_ | refine z_sif ?_ | refine u_add ?_ | refine u_sub ?_ | refine u_lt ?_ | refine u_le ?_ | refine u_gt ?_ | refine u_ge ?_ | refine u_isN ?_ | refine u_notN ?_ | refine z_par3 ?_ | refine z_dcl ?_ | refine z_cel ?_ | refine z_putDC ?_ | refine z_clrC ?_ | refine z_ownD ?_ | refine z_lenSN ?_ | refine z_D ?_ | refine z_dComp ?_ | refine z_lc2 ?_ | refine z_sn ?_ | refine z_makeC ?_ | refine z_methC ?_ | refine z_fldC ?_ | refine z_sfldC ?_ | refine z_xSet ?_ | refine z_methX ?_ | refine z_methCX ?_ | refine z_xIfE ?_ | refine z_xEL ?_ | refine z_xPar2 (by decide) ?_ | refine z_kD2 ?_ | refine z_par2 (by decide) ?_ | refine z_d0 ?_ | refine z_xBare ?_ | refine z_xFrz ?_ | refine z_xFor ?_ | refine z_sortIt ?_ | refine z_lenO ?_ | refine z_xSeq ?_ | refine z_xIf ?_ | refine z_xRaise ?_ | refine z_xL ?_ | refine z_xNil ?_ | refine z_xDrop ?_ | refine z_xRet ?_ | refine z_eCallX ?_ | refine z_sTry ?_ | refine z_DT ?_ | refine z_t0 ?_ | refine z_Td ?_ | refine z_ownT ?_ | refine z_putT ?_ | refine z_frzT ?_ | refine z_par3T ?_ | refine z_toT ?_ | refine z_join ?_ | refine z_sw3 ?_ | refine z_err ?_ | refine z_err0 ?_ | refine z_errB ?_ | refine z_zipL ?_ | refine z_aStar ?_ | refine z_rgV ?_ | refine z_irgV ?_ | (with_reducible refine u_mul ?_ ?_; next => first | exact mulC_r (by decide) (by decide) | exact mulC_l (by decide) (by decide) | exact mulC_r (by omega) (by omega) | exact mulC_l (by omega) (by omega)) | (with_reducible refine u_mod ?_ ?_; next => first | decide | assumption | omega) | (with_reducible refine u_div ?_ ?_; next => first | exact divC_s (by decide) (by decide) | exact divC_s (by omega) (by omega)))))
/-! ### sights grown row by row -/
noncomputable abbrev fg1 : SS := (sSeq (sSet 6 (eTup (aCons (eDcl (eBi gDictD (aCons (eOp oIx (eOp oIx (ePeek 3) (ePeek 5)) (eC (.int 0))) (aNil)))) (aCons (eOp oIx (eOp oIx (ePeek 3) (ePeek 5)) (eC (.int 1))) (aCons (eOp oIx (eOp oIx (ePeek 3) (ePeek 5)) (eC (.int 2))) (aNil))))))
  (sSeq (sSet 4 (eMeth "Sights" "with_row" m_Sights_with_row [] (eVar 4) (aCons (eVar 6) (aNil))))
  (sSeq (sPutDC (eOp oIx (ePeek 6) (eC (.int 0))) (eOp oIx (ePeek 1) (eC (.int 0))) (eOp oPow (eC (.int 10)) (eC (.int 9))))
  (sIf (bOf (eOp oNe (eBi gStrD (aCons (eCall m_fits [] (aCons (eVar 4) (aNil))) (aNil))) (eBi gStrD (aCons (eOp oEq (eCall m__law_pairs [] (aCons (eVar 1) (aCons (eVar 2) (aCons (eL (eSl slL (ePeek 3) (oNone) (oSome (eOp oAdd (ePeek 5) (eC (.int 1)))))) (aNil))))) (eL (lDisp (aNil)))) (aNil)))))
  (sRet (eC (.bl false)))
  (sNil)))))
noncomputable abbrev fg2 : SS := (sSeq (sSet 7 (eMeth "Sights" "without" m_Sights_without [] (eVar 4) (aCons (eVar 5) (aNil))))
  (sSeq (sIf (bOr (bOf (eOp (oEqZ true) (eMeth "Sights" "rows" m_Sights_rows [] (eVar 7) (aNil)) (eOp oAdd (eL (eSl slL (ePeek 3) (oNone) (oSome (ePeek 5)))) (eL (eSl slL (ePeek 3) (oSome (eOp oAdd (ePeek 5) (eC (.int 1)))) (oNone)))))) (bOr (bOf (eOp oNe (eMeth "Sights" "most" m_Sights_most [] (eVar 7) (aNil)) (ePeek 2))) (bOf (eOp oNe (eMeth "Sights" "names" m_Sights_names [] (eVar 7) (aNil)) (ePeek 1)))))
  (sRet (eC (.bl false)))
  (sNil))
  (sIf (bOf (eOp oNe (eBi gStrD (aCons (eCall m_fits [] (aCons (eVar 7) (aNil))) (aNil))) (eBi gStrD (aCons (eOp oEq (eCall m__law_pairs [] (aCons (eVar 1) (aCons (eVar 2) (aCons (eMeth "Sights" "rows" m_Sights_rows [] (eVar 7) (aNil)) (aNil))))) (eL (lDisp (aNil)))) (aNil)))))
  (sRet (eC (.bl false)))
  (sNil))))
noncomputable abbrev tg2 : SS := (sSeq (sIf (bOr (bOf (eOwn "Sights" CS true m_Sights___eq__ (eVar 4) (eVar 0))) (bOr (bOf (eOp (oEqZ true) (eMeth "Sights" "rows" m_Sights_rows [] (eVar 4) (aNil)) (ePeek 3))) (bOf (eOp oNe (eMeth "Sights" "most" m_Sights_most [] (eVar 4) (aNil)) (ePeek 2)))))
  (sRet (eC (.bl false)))
  (sNil))
  (sSeq (sIf (bOf (eOp oNe (eOp oIsN (eCall m_clash [] (aCons (eVar 4) (aNil))) (eC .non)) (eOp oEq (eCall m__law_pairs [] (aCons (eVar 1) (aCons (eVar 2) (aCons (eVar 3) (aNil))))) (eL (lDisp (aNil))))))
  (sRet (eC (.bl false)))
  (sNil))
  (sSeq (sFor (iRg1 (aCons (eBi gLen (aCons (ePeek 3) (aNil))) (aNil))) (asgN 5)
  (sSeq (sSet 7 (eMeth "Sights" "without" m_Sights_without [] (eVar 4) (aCons (eVar 5) (aNil))))
  (sSeq (sIf (bOr (bOf (eOp (oEqZ true) (eMeth "Sights" "rows" m_Sights_rows [] (eVar 7) (aNil)) (eOp oAdd (eL (eSl slL (ePeek 3) (oNone) (oSome (ePeek 5)))) (eL (eSl slL (ePeek 3) (oSome (eOp oAdd (ePeek 5) (eC (.int 1)))) (oNone)))))) (bOr (bOf (eOp oNe (eMeth "Sights" "most" m_Sights_most [] (eVar 7) (aNil)) (ePeek 2))) (bOf (eOp oNe (eMeth "Sights" "names" m_Sights_names [] (eVar 7) (aNil)) (ePeek 1)))))
  (sRet (eC (.bl false)))
  (sNil))
  (sIf (bOf (eOp oNe (eBi gStrD (aCons (eCall m_fits [] (aCons (eVar 7) (aNil))) (aNil))) (eBi gStrD (aCons (eOp oEq (eCall m__law_pairs [] (aCons (eVar 1) (aCons (eVar 2) (aCons (eMeth "Sights" "rows" m_Sights_rows [] (eVar 7) (aNil)) (aNil))))) (eL (lDisp (aNil)))) (aNil)))))
  (sRet (eC (.bl false)))
  (sNil)))))
  (sRet (eC (.bl true))))))
noncomputable abbrev tg4 : SS := (sSeq (sFor (iRg1 (aCons (eBi gLen (aCons (ePeek 3) (aNil))) (aNil))) (asgN 5)
  (sSeq (sSet 7 (eMeth "Sights" "without" m_Sights_without [] (eVar 4) (aCons (eVar 5) (aNil))))
  (sSeq (sIf (bOr (bOf (eOp (oEqZ true) (eMeth "Sights" "rows" m_Sights_rows [] (eVar 7) (aNil)) (eOp oAdd (eL (eSl slL (ePeek 3) (oNone) (oSome (ePeek 5)))) (eL (eSl slL (ePeek 3) (oSome (eOp oAdd (ePeek 5) (eC (.int 1)))) (oNone)))))) (bOr (bOf (eOp oNe (eMeth "Sights" "most" m_Sights_most [] (eVar 7) (aNil)) (ePeek 2))) (bOf (eOp oNe (eMeth "Sights" "names" m_Sights_names [] (eVar 7) (aNil)) (ePeek 1)))))
  (sRet (eC (.bl false)))
  (sNil))
  (sIf (bOf (eOp oNe (eBi gStrD (aCons (eCall m_fits [] (aCons (eVar 7) (aNil))) (aNil))) (eBi gStrD (aCons (eOp oEq (eCall m__law_pairs [] (aCons (eVar 1) (aCons (eVar 2) (aCons (eMeth "Sights" "rows" m_Sights_rows [] (eVar 7) (aNil)) (aNil))))) (eL (lDisp (aNil)))) (aNil)))))
  (sRet (eC (.bl false)))
  (sNil)))))
  (sRet (eC (.bl true))))

section
variable {A : List Str} {m : Option Int} {R : List Sg} (b : Lt A) (hm : ∀ w, m = some w → 0 ≤ w) (hP : ∀ s ∈ R, sgOk s) (hR : R.length ≤ 5)
include b hm hP hR
theorem g1_ok {i : Nat} {a : Sg} {p6 p7 : Sl} {s : Sto} (ha : R[i]? = some a) : Ok (fg1 [.val (siD A m R), .val (.lst (A.map D.str)), .val (oD m), .val (rwD A R), .val (siD A m (R.take i)), .val (.int i), p6, p7] s) fun o s2 =>
    ∃ q6 ys, o = .nx [.val (siD A m R), .val (.lst (A.map D.str)), .val (oD m), .val (rwD A R), .val (siD A m (R.take (i + 1))), .val (.int i), q6, p7] ∧ s2 = s ++ ys := by
  have hi := (List.getElem?_eq_some_iff.mp ha).1
  have bh := b.hi
  have ok := hP a (List.mem_of_getElem? ha)
  unfold fg1
  bv_omega
  refine u_ixL (at_row ha) ?_
  bv_omega
  refine u_ixT rfl ?_
  bv_omega
  refine u_now rfl ?_
  bv_omega
  refine u_ixL (at_row ha) ?_
  bv_omega
  refine u_ixT rfl ?_
  bv_omega
  refine u_ixL (at_row ha) ?_
  bv_omega
  refine u_ixT rfl ?_
  bv_omega
  refine ⟨by simp, ?_⟩
  bv_omega
  refine ⟨rfl, by decide, ?_⟩
  bv_omega
  have tk : R.take (i + 1) = R.take i ++ [a] := by rw [List.take_add_one, ha]; rfl
  have hr : Hr (s ++ [unC (hrK A a.h)]) (.dcl s.length) A a.h := .c sto_last
  refine Ok.use (withrow_ok (m := m) (R := R.take i) (d := .tup [.dcl s.length, oD a.lo, oD a.hi]) (s := a) b hm (fun y hy => hP y (List.mem_of_mem_take hy)) (by rw [List.length_take]; omega) ⟨⟨_, rfl, hr⟩, ok⟩) ?_
  rw [← tk]
  bv_omega
  refine u_pow (by decide +kernel) ?_
  bv_omega
  refine u_ixT rfl ?_
  bv_omega
  obtain ⟨z, zs, eA⟩ : ∃ z zs, A = z :: zs := by
    cases A with
    | nil => have := b.lo; simp at this
    | cons z zs => exact ⟨z, zs, rfl⟩
  refine u_ixL (d := .str z) (by rw [eA]; exact at0) ?_
  refine ⟨.inr z, hrK A a.h, rfl, sto_last, by rw [List.length_map]; omega, ?_⟩
  rw [sto_set]
  generalize unC (putKD (hrK A a.h) (.inr z) (.int (10 ^ 9))) = cc
  bv_omega
  refine Ok.use (fits_ok b.nm (by omega) (by rw [List.length_take]; omega)) ?_
  bv_omega
  refine u_now strB ?_
  bv_omega
  refine u_now cutR ?_
  bv_omega
  rw [show (i : Int) + 1 = ((i + 1 : Nat) : Int) by omega, cut_take]
  refine Ok.use (lawpairs_ok b.nm (by omega) (by rw [List.length_take]; omega)) ?_
  bv_omega
  refine ⟨by decide, ?_⟩
  refine u_now nilP_eq ?_
  bv_omega
  refine u_now strB ?_
  refine u_now ne_bS ?_
  refine b_f rfl ?_
  bv_omega
  exact ⟨_, _, rfl, rfl⟩
theorem g2_ok {i : Nat} {a : Sg} {p6 p7 : Sl} {s : Sto} (ha : R[i]? = some a) : Ok (fg2 [.val (siD A m R), .val (.lst (A.map D.str)), .val (oD m), .val (rwD A R), .val (siD A m R), .val (.int i), p6, p7] s) fun o s2 =>
    ∃ q7, o = .nx [.val (siD A m R), .val (.lst (A.map D.str)), .val (oD m), .val (rwD A R), .val (siD A m R), .val (.int i), p6, q7] ∧ s2 = s := by
  have hi := (List.getElem?_eq_some_iff.mp ha).1
  have bh := b.hi
  have hl : (R.take i ++ R.drop (i + 1)).length ≤ 100 := by rw [List.length_append, List.length_take, List.length_drop]; omega
  have cutE : ∀ s : Sto, oAdd (.lst ((R.take i).map (sgD A))) (.lst ((R.drop (i + 1)).map (sgD A))) s = some (rwD A (R.take i ++ R.drop (i + 1))) := fun s => by
    obtain ⟨d, h1, h2⟩ := u_addL (s := s) (x := .lst ((R.take i).map (sgD A))) (y := .lst ((R.drop (i + 1)).map (sgD A))) (Q := fun d => d = .lst ((R.take i).map (sgD A) ++ (R.drop (i + 1)).map (sgD A))) rfl rfl (by rw [List.length_map, List.length_map, List.length_take, List.length_drop]; omega) rfl
    rw [h1, h2, ← List.map_append]
  unfold fg2
  bv_omega
  refine ⟨rfl, by decide, ?_⟩
  bv_omega
  refine Ok.use (without_ok b hm hP (by omega) hi) ?_
  bv_omega
  refine ⟨rfl, by decide, ?_⟩
  bv_omega
  refine Ok.use (rows_ok hl) ?_
  bv_omega
  refine u_now cutR ?_
  bv_omega
  refine u_now cutR ?_
  rw [cut_take, show (i : Int) + 1 = ((i + 1 : Nat) : Int) by omega, cut_drop]
  refine u_now (cutE s) ?_
  refine u_eqZ refZ_rw ?_
  refine b_f rfl ?_
  bv_omega
  refine ⟨rfl, by decide, ?_⟩
  bv_omega
  refine Ok.use most_ok ?_
  bv_omega
  refine u_now (a := .bl false) (by cases m with | none => rfl | some w => (obtain ⟨d, h1, h2⟩ := u_ne (s := s) (x := .int w) (y := .int w) (p := .int w) (q := .int w) (Q := fun d => d = .bl (!PyData.eqv (.int w) (.int w))) rfl rfl rfl; rw [h1, h2, SeqAt.eqv_refl _ rfl]; rfl)) ?_
  refine b_f rfl ?_
  bv_omega
  refine ⟨rfl, by decide, ?_⟩
  bv_omega
  refine Ok.use names_ok ?_
  bv_omega
  refine u_ne (py_lstS b.ok) (py_lstS b.ok) ?_
  rw [SeqAt.eqv_refl _ (SeqAt.canLay_of_shaped (toPy_shaped (py_lstS (s := s) (n := 58) b.ok)))]
  refine b_f rfl ?_
  bv_omega
  refine Ok.use (fits_ok b.nm (by omega) hl) ?_
  bv_omega
  refine u_now strB ?_
  bv_omega
  refine ⟨rfl, by decide, ?_⟩
  bv_omega
  refine Ok.use (rows_ok hl) ?_
  bv_omega
  refine Ok.use (lawpairs_ok b.nm (by omega) hl) ?_
  bv_omega
  refine ⟨by decide, ?_⟩
  refine u_now nilP_eq ?_
  bv_omega
  refine u_now strB ?_
  refine u_now ne_bS ?_
  refine b_f rfl ?_
  bv_omega
  exact ⟨_, rfl, rfl⟩
theorem tail2_ok {p5 p6 p7 : Sl} {s : Sto} : Ok (tg4 [.val (siD A m R), .val (.lst (A.map D.str)), .val (oD m), .val (rwD A R), .val (siD A m R), p5, p6, p7] s) fun o s2 => o = .rt (.bl true) ∧ s2 = s := by
  unfold tg4
  bv_omega
  refine u_now (len_rw (by omega)) ?_
  bv_omega
  refine ⟨_, rfl, inR_t (by omega) (by omega), ?_⟩
  rw [Int.toNat_natCast, rangeD_nat]
  refine (loop_inv (fun i env s2 => ∃ p5 p6 p7, env = [.val (siD A m R), .val (.lst (A.map D.str)), .val (oD m), .val (rwD A R), .val (siD A m R), p5, p6, p7] ∧ s2 = s) _ 0 _ _ ⟨_, _, _, rfl, rfl⟩ ?_ (fun _ _ _ => rfl)).mono ?_
  · rintro i x e0 s2 hx ⟨p5, p6, p7, rfl, rfl⟩
    rw [List.getElem?_map] at hx
    obtain ⟨i', hi, rfl⟩ := Option.map_eq_some_iff.mp hx
    obtain ⟨hlt, rfl⟩ := List.getElem?_eq_some_iff.mp hi
    rw [List.length_range] at hlt
    rw [List.getElem_range]
    refine ⟨rfl, _, rfl, ?_⟩
    refine (g2_ok b hm hP hR (i := i) (p6 := p6) (p7 := p7) (s := s2) (List.getElem?_eq_getElem hlt)).mono ?_
    rintro o s3 ⟨q7, rfl, rfl⟩
    exact ⟨_, .inl rfl, .val (.int i), p6, q7, rfl, rfl⟩
  · rintro o s2 ⟨e', rfl, p5, p6, p7, rfl, rfl⟩
    bv_omega
    exact ⟨rfl, rfl⟩
theorem neO {s : Sto} (o : Option Int) : oNe (oD o) (oD o) s = some (.bl false) := by
  cases o with
  | none => rfl
  | some w =>
    obtain ⟨d, h1, h2⟩ := u_ne (s := s) (x := .int w) (y := .int w) (p := .int w) (q := .int w) (Q := fun d => d = .bl (!PyData.eqv (.int w) (.int w))) rfl rfl rfl
    show oNe (.int w) (.int w) s = _
    rw [h1, h2, SeqAt.eqv_refl _ rfl]
    rfl
theorem neB {s : Sto} (c : Bool) : oNe (.bl c) (.bl c) s = some (.bl false) := by cases c <;> rfl
theorem grown_ok {s : Sto} : Ok (m__law_grown_right [siD A m R, .lst (A.map D.str), oD m, rwD A R] s) fun d s2 => d = .bl true ∧ ∃ ys, s2 = s ++ ys := by
  have bh := b.hi
  refine z_fn rfl ?_
  unfold b__law_grown_right
  bv_omega
  refine ⟨by decide, ?_⟩
  bv_omega
  refine Ok.use (init_R (R := []) b hm (by simp) (by simp)) ?_
  bv_omega
  refine u_now (len_rw (by omega)) ?_
  bv_omega
  refine ⟨_, rfl, inR_t (by omega) (by omega), ?_⟩
  rw [Int.toNat_natCast, rangeD_nat]
  refine (loop_inv (fun i env s2 => ∃ p5 p6 p7 ys, env = [.val (siD A m R), .val (.lst (A.map D.str)), .val (oD m), .val (rwD A R), .val (siD A m (R.take i)), p5, p6, p7] ∧ s2 = s ++ ys) _ 0 _ _ ⟨_, _, _, [], rfl, by simp⟩ ?_ (fun _ _ _ => rfl)).mono ?_
  · rintro i x e0 s2 hx ⟨p5, p6, p7, ys, rfl, rfl⟩
    rw [List.getElem?_map] at hx
    obtain ⟨i', hi, rfl⟩ := Option.map_eq_some_iff.mp hx
    obtain ⟨hlt, rfl⟩ := List.getElem?_eq_some_iff.mp hi
    rw [List.length_range] at hlt
    rw [List.getElem_range, Nat.zero_add]
    refine ⟨rfl, _, rfl, ?_⟩
    refine (g1_ok b hm hP hR (i := i) (p6 := p6) (p7 := p7) (s := s ++ ys) (List.getElem?_eq_getElem hlt)).mono ?_
    rintro o s3 ⟨q6, zs, rfl, rfl⟩
    exact ⟨_, .inl rfl, .val (.int i), q6, p7, ys ++ zs, rfl, List.append_assoc ..⟩
  · rintro o s2 ⟨e', rfl, p5, p6, p7, ys, rfl, rfl⟩
    rw [List.length_map, List.length_range, Nat.zero_add, List.take_length]
    change Ok (tg2 _ _) _
    unfold tg2
    bv_omega
    refine oeq_ok rfl rfl ?_
    refine b_f rfl ?_
    bv_omega
    refine ⟨rfl, by decide, ?_⟩
    bv_omega
    refine Ok.use (rows_ok (by omega)) ?_
    bv_omega
    refine u_eqZ refZ_rw ?_
    refine b_f rfl ?_
    bv_omega
    refine ⟨rfl, by decide, ?_⟩
    bv_omega
    refine Ok.use most_ok ?_
    bv_omega
    refine u_now (neO b hm hP hR m) ?_
    refine b_f rfl ?_
    bv_omega
    refine Ok.use (clash_ok b.nm (by omega) (by omega)) ?_
    bv_omega
    refine Ok.use (lawpairs_ok b.nm (by omega) (by omega)) ?_
    bv_omega
    refine ⟨by decide, ?_⟩
    refine u_now nilP_eq ?_
    rw [fstP_non]
    refine u_now (neB b hm hP hR _) ?_
    refine b_f rfl ?_
    refine z_snil ?_
    change Ok (tg4 _ _) _
    refine (tail2_ok b hm hP hR).mono ?_
    rintro o s3 ⟨rfl, rfl⟩
    exact ⟨rfl, ys, rfl⟩
end
end K64

namespace K64
open PySem L2 LW
local macro_rules | `(tactic| bv_omega) => `(tactic| (repeat (first | with_reducible first | refine z_var (by with_unfolding_all rfl) ?_ | refine z_pk (by with_unfolding_all rfl) ?_ | refine z_pkO (by with_unfolding_all rfl) ?_ | refine z_retO (by with_unfolding_all rfl) ?_ | refine z_dictO (by with_unfolding_all rfl) ?_ | refine z_c ?_ | refine z_op ?_ | refine z_nil ?_ | refine z_cons ?_ | refine z_tup ?_ | refine z_lst ?_ | refine z_L ?_ | refine z_bi ?_ | refine z_call ?_ | refine z_meth ?_ | refine z_prop ?_ | refine z_fld ?_ | refine z_make ?_ | refine z_not ?_ | refine z_neg ?_ | refine z_bits ?_ | refine t_of ?_ | refine t_not ?_ | refine z_slN ?_ | refine z_oN ?_ | refine z_oS ?_ | refine z_snil ?_ | refine z_seq ?_ | refine z_set ?_ | refine z_own ?_ | refine z_ret ?_ | refine z_retC ?_ | refine z_drop ?_ | refine z_frz ?_ | refine z_app ?_ | refine z_appC ?_ | refine z_putC ?_ | refine z_for ?_ | refine z_lc ?_ | refine z_yes ?_ | refine z_kv ?_ | refine z_ko ?_ | refine z_par ?_ | refine z_unp ?_ | refine z_sfld ?_ | refine z_rg1 ?_ | refine z_rg2 ?_ | refine z_rg3 ?_ | refine z_and ?_ | refine z_or ?_ | refine z_eif ?_ | refine t_and ?_ | refine t_or ?_ | refine z_sif ?_ | refine u_add ?_ | refine u_sub ?_ | refine u_lt ?_ | refine u_le ?_ | refine u_gt ?_ | refine u_ge ?_ | refine u_isN ?_ | refine u_notN ?_ | refine z_par3 ?_ | refine z_dcl ?_ | refine z_cel ?_ | refine z_putDC ?_ | refine z_clrC ?_ | refine z_ownD ?_ | refine z_lenSN ?_ | refine z_D ?_ | refine z_dComp ?_ | refine z_lc2 ?_ | refine z_sn ?_ | refine z_makeC ?_ | refine z_methC ?_ | refine z_fldC ?_ | refine z_sfldC ?_ | refine z_xSet ?_ | refine z_methX ?_ | refine z_methCX ?_ | refine z_xIfE ?_ | refine z_xEL ?_ | refine z_xPar2 (by decide) ?_ | refine z_kD2 ?_ | refine z_par2 (by decide) ?_ | refine z_d0 ?_ | refine z_xBare ?_ | refine z_xFrz ?_ | refine z_xFor ?_ | refine z_sortIt ?_ | refine z_lenO ?_ | refine z_xSeq ?_ | refine z_xIf ?_ | refine z_xRaise ?_ | refine z_xL ?_ | refine z_xNil ?_ | refine z_xDrop ?_ | refine z_xRet ?_ | refine z_eCallX ?_ | refine z_sTry ?_ | refine z_DT ?_ | refine z_t0 ?_ | refine z_Td ?_ | refine z_ownT ?_ | refine z_putT ?_ | refine z_frzT ?_ | refine z_par3T ?_ | refine z_toT ?_ | refine z_join ?_ | refine z_sw3 ?_ | refine z_err ?_ | refine z_err0 ?_ | refine z_errB ?_ | refine z_zipL ?_ | refine z_aStar ?_ | refine z_rgV ?_ | refine z_irgV ?_ | (with_reducible refine u_mul ?_ ?_; next => first | exact mulC_r (by decide) (by decide) | exact mulC_l (by decide) (by decide) | exact mulC_r (by omega) (by omega) | exact mulC_l (by omega) (by omega)) | (with_reducible refine u_mod ?_ ?_; next => first | decide | assumption | omega) | (with_reducible refine u_div ?_ ?_; next => first | exact divC_s (by decide) (by decide) | exact divC_s (by omega) (by omega)))))
/-! ### sights judged -/
noncomputable abbrev fj1 : SS := (sFor (iRg2 (aCons (eNeg (eC (.int 1))) (aCons (eOp oAdd (eBi gLen (aCons (ePeek 3) (aNil))) (eC (.int 1))) (aNil)))) (asgN 8)
  (sSeq (sIf (bOf (eOp oNe (eBi gStrD (aCons (eCall m_check_clash [] (aCons (eVar 0) (aCons (eTup (aCons (eVar 7) (aCons (eVar 8) (aNil)))) (aNil)))) (aNil))) (eBi gStrD (aCons (eOp (oInL false) (eBi gStrD (aCons (eTup (aCons (eVar 7) (aCons (eVar 8) (aNil)))) (aNil))) (ePeek 4)) (aNil)))))
  (sRet (eC (.bl false)))
  (sNil))
  (sIf (bOr (bOf (eOp (oIsB true) (eCall m_check_clash [] (aCons (eVar 0) (aCons (eL (lDisp (aCons (eVar 7) (aCons (eVar 8) (aNil))))) (aNil)))) (eC (.bl false)))) (bOf (eOp (oIsB true) (eCall m_check_clash [] (aCons (eVar 0) (aCons (eTup (aCons (eVar 7) (aCons (eVar 8) (aCons (eC (.int 0)) (aNil))))) (aNil)))) (eC (.bl false)))))
  (sRet (eC (.bl false)))
  (sNil))))
noncomputable abbrev fj2 : SS := (sSeq (sIf (bOf (eOp oNe (eBi gStrD (aCons (eCall m_check_clash [] (aCons (eVar 0) (aCons (eTup (aCons (eVar 7) (aCons (eVar 8) (aNil)))) (aNil)))) (aNil))) (eBi gStrD (aCons (eOp (oInL false) (eBi gStrD (aCons (eTup (aCons (eVar 7) (aCons (eVar 8) (aNil)))) (aNil))) (ePeek 4)) (aNil)))))
  (sRet (eC (.bl false)))
  (sNil))
  (sIf (bOr (bOf (eOp (oIsB true) (eCall m_check_clash [] (aCons (eVar 0) (aCons (eL (lDisp (aCons (eVar 7) (aCons (eVar 8) (aNil))))) (aNil)))) (eC (.bl false)))) (bOf (eOp (oIsB true) (eCall m_check_clash [] (aCons (eVar 0) (aCons (eTup (aCons (eVar 7) (aCons (eVar 8) (aCons (eC (.int 0)) (aNil))))) (aNil)))) (eC (.bl false)))))
  (sRet (eC (.bl false)))
  (sNil)))
noncomputable abbrev tj4 : SS := (sSeq (sIf (bOf (eOp oNe (eBi gStrD (aCons (eCall m_fits [] (aCons (eVar 0) (aNil))) (aNil))) (eBi gStrD (aCons (eOp oEq (ePeek 4) (eL (lDisp (aNil)))) (aNil)))))
  (sRet (eC (.bl false)))
  (sNil))
  (sSeq (sFor (iRg2 (aCons (eNeg (eC (.int 1))) (aCons (eOp oAdd (eBi gLen (aCons (ePeek 3) (aNil))) (eC (.int 1))) (aNil)))) (asgN 7)
  (sFor (iRg2 (aCons (eNeg (eC (.int 1))) (aCons (eOp oAdd (eBi gLen (aCons (ePeek 3) (aNil))) (eC (.int 1))) (aNil)))) (asgN 8)
  (sSeq (sIf (bOf (eOp oNe (eBi gStrD (aCons (eCall m_check_clash [] (aCons (eVar 0) (aCons (eTup (aCons (eVar 7) (aCons (eVar 8) (aNil)))) (aNil)))) (aNil))) (eBi gStrD (aCons (eOp (oInL false) (eBi gStrD (aCons (eTup (aCons (eVar 7) (aCons (eVar 8) (aNil)))) (aNil))) (ePeek 4)) (aNil)))))
  (sRet (eC (.bl false)))
  (sNil))
  (sIf (bOr (bOf (eOp (oIsB true) (eCall m_check_clash [] (aCons (eVar 0) (aCons (eL (lDisp (aCons (eVar 7) (aCons (eVar 8) (aNil))))) (aNil)))) (eC (.bl false)))) (bOf (eOp (oIsB true) (eCall m_check_clash [] (aCons (eVar 0) (aCons (eTup (aCons (eVar 7) (aCons (eVar 8) (aCons (eC (.int 0)) (aNil))))) (aNil)))) (eC (.bl false)))))
  (sRet (eC (.bl false)))
  (sNil)))))
  (sSeq (sSet 9 (eL (lDisp (aCons (eC .non) (aCons (eC (.int 0)) (aCons (eTup (aNil)) (aCons (eTup (aCons (eC (.int 0)) (aNil))) (aCons (eC (.str "00")) (aCons (eD (lD0)) (aCons (eL (lDisp (aNil))) (aCons (eTup (aCons (eC .non) (aCons (eC (.int 0)) (aNil)))) (aCons (eTup (aCons (eC (.str "0")) (aCons (eC (.str "0")) (aNil)))) (aCons (eTup (aCons (eC (.bl true)) (aCons (eC (.bl false)) (aNil)))) (aCons (eTup (aCons (eC (.bl false)) (aCons (eC (.bl false)) (aNil)))) (aCons (eTup (aCons (eTup (aCons (eC (.int 0)) (aCons (eC (.int 0)) (aNil)))) (aNil))) (aNil))))))))))))))))
  (sSeq (sFor (iSeq (eOp oAdd (ePeek 9) (eL (lDisp (aCons (eTup (aCons (eL (lDisp (aNil))) (aCons (eL (lDisp (aNil))) (aNil)))) (aCons (eTup (aCons (eC (.int 0)) (aCons (eC (.bl true)) (aNil)))) (aCons (eTup (aCons (eC (.int 0)) (aCons (eC .non) (aNil)))) (aCons (eTup (aCons (eC (.int 0)) (aCons (eC (.str "0")) (aNil)))) (aCons (eTup (aCons (eD (lD0)) (aCons (eC (.int 0)) (aNil)))) (aNil)))))))))) (asgN 10)
  (sIf (bOf (eOp (oIsB true) (eCall m_check_clash [] (aCons (eVar 0) (aCons (eVar 10) (aNil)))) (eC (.bl false))))
  (sRet (eC (.bl false)))
  (sNil)))
  (sRet (eC (.bl true)))))))
noncomputable abbrev tj5 : SS := (sSeq (sFor (iRg2 (aCons (eNeg (eC (.int 1))) (aCons (eOp oAdd (eBi gLen (aCons (ePeek 3) (aNil))) (eC (.int 1))) (aNil)))) (asgN 7)
  (sFor (iRg2 (aCons (eNeg (eC (.int 1))) (aCons (eOp oAdd (eBi gLen (aCons (ePeek 3) (aNil))) (eC (.int 1))) (aNil)))) (asgN 8)
  (sSeq (sIf (bOf (eOp oNe (eBi gStrD (aCons (eCall m_check_clash [] (aCons (eVar 0) (aCons (eTup (aCons (eVar 7) (aCons (eVar 8) (aNil)))) (aNil)))) (aNil))) (eBi gStrD (aCons (eOp (oInL false) (eBi gStrD (aCons (eTup (aCons (eVar 7) (aCons (eVar 8) (aNil)))) (aNil))) (ePeek 4)) (aNil)))))
  (sRet (eC (.bl false)))
  (sNil))
  (sIf (bOr (bOf (eOp (oIsB true) (eCall m_check_clash [] (aCons (eVar 0) (aCons (eL (lDisp (aCons (eVar 7) (aCons (eVar 8) (aNil))))) (aNil)))) (eC (.bl false)))) (bOf (eOp (oIsB true) (eCall m_check_clash [] (aCons (eVar 0) (aCons (eTup (aCons (eVar 7) (aCons (eVar 8) (aCons (eC (.int 0)) (aNil))))) (aNil)))) (eC (.bl false)))))
  (sRet (eC (.bl false)))
  (sNil)))))
  (sSeq (sSet 9 (eL (lDisp (aCons (eC .non) (aCons (eC (.int 0)) (aCons (eTup (aNil)) (aCons (eTup (aCons (eC (.int 0)) (aNil))) (aCons (eC (.str "00")) (aCons (eD (lD0)) (aCons (eL (lDisp (aNil))) (aCons (eTup (aCons (eC .non) (aCons (eC (.int 0)) (aNil)))) (aCons (eTup (aCons (eC (.str "0")) (aCons (eC (.str "0")) (aNil)))) (aCons (eTup (aCons (eC (.bl true)) (aCons (eC (.bl false)) (aNil)))) (aCons (eTup (aCons (eC (.bl false)) (aCons (eC (.bl false)) (aNil)))) (aCons (eTup (aCons (eTup (aCons (eC (.int 0)) (aCons (eC (.int 0)) (aNil)))) (aNil))) (aNil))))))))))))))))
  (sSeq (sFor (iSeq (eOp oAdd (ePeek 9) (eL (lDisp (aCons (eTup (aCons (eL (lDisp (aNil))) (aCons (eL (lDisp (aNil))) (aNil)))) (aCons (eTup (aCons (eC (.int 0)) (aCons (eC (.bl true)) (aNil)))) (aCons (eTup (aCons (eC (.int 0)) (aCons (eC .non) (aNil)))) (aCons (eTup (aCons (eC (.int 0)) (aCons (eC (.str "0")) (aNil)))) (aCons (eTup (aCons (eD (lD0)) (aCons (eC (.int 0)) (aNil)))) (aNil)))))))))) (asgN 10)
  (sIf (bOf (eOp (oIsB true) (eCall m_check_clash [] (aCons (eVar 0) (aCons (eVar 10) (aNil)))) (eC (.bl false))))
  (sRet (eC (.bl false)))
  (sNil)))
  (sRet (eC (.bl true))))))
noncomputable abbrev tj6 : SS := (sSeq (sSet 9 (eL (lDisp (aCons (eC .non) (aCons (eC (.int 0)) (aCons (eTup (aNil)) (aCons (eTup (aCons (eC (.int 0)) (aNil))) (aCons (eC (.str "00")) (aCons (eD (lD0)) (aCons (eL (lDisp (aNil))) (aCons (eTup (aCons (eC .non) (aCons (eC (.int 0)) (aNil)))) (aCons (eTup (aCons (eC (.str "0")) (aCons (eC (.str "0")) (aNil)))) (aCons (eTup (aCons (eC (.bl true)) (aCons (eC (.bl false)) (aNil)))) (aCons (eTup (aCons (eC (.bl false)) (aCons (eC (.bl false)) (aNil)))) (aCons (eTup (aCons (eTup (aCons (eC (.int 0)) (aCons (eC (.int 0)) (aNil)))) (aNil))) (aNil))))))))))))))))
  (sSeq (sFor (iSeq (eOp oAdd (ePeek 9) (eL (lDisp (aCons (eTup (aCons (eL (lDisp (aNil))) (aCons (eL (lDisp (aNil))) (aNil)))) (aCons (eTup (aCons (eC (.int 0)) (aCons (eC (.bl true)) (aNil)))) (aCons (eTup (aCons (eC (.int 0)) (aCons (eC .non) (aNil)))) (aCons (eTup (aCons (eC (.int 0)) (aCons (eC (.str "0")) (aNil)))) (aCons (eTup (aCons (eD (lD0)) (aCons (eC (.int 0)) (aNil)))) (aNil)))))))))) (asgN 10)
  (sIf (bOf (eOp (oIsB true) (eCall m_check_clash [] (aCons (eVar 0) (aCons (eVar 10) (aNil)))) (eC (.bl false))))
  (sRet (eC (.bl false)))
  (sNil)))
  (sRet (eC (.bl true)))))

theorem isB_ff {s : Sto} : oIsB true (.bl false) (.bl false) s = some (.bl false) := rfl
section
variable {A : List Str} {m : Option Int} {R : List Sg} (b : Lt A) (hm : ∀ w, m = some w → 0 ≤ w) (hP : ∀ s ∈ R, sgOk s) (hR : R.length ≤ 5)
include b hm hP hR
theorem prs_sm : SmL (prs A m R) := fun p hp => by
  unfold prs at hp
  obtain ⟨i, hi, hp⟩ := List.mem_flatMap.mp hp
  obtain ⟨j, hj, rfl⟩ := List.mem_map.mp hp
  have h1 := List.mem_range.mp hi
  have h2 := List.mem_range.mp (List.mem_filter.mp hj).1
  exact ⟨by show i < 6; omega, by show j < 6; omega⟩
theorem j2_ok {i j : Int} (hi : Sm i) (hj : Sm j) {p6 p9 p10 : Sl} {p5 : Sl} {s : Sto} : Ok (fj2 [.val (siD A m R), .val (.lst (A.map D.str)), .val (oD m), .val (rwD A R), .val (bdD (prs A m R)), p5, p6, .val (.int i), .val (.int j), p9, p10] s) fun o s2 => o = .nx [.val (siD A m R), .val (.lst (A.map D.str)), .val (oD m), .val (rwD A R), .val (bdD (prs A m R)), p5, p6, .val (.int i), .val (.int j), p9, p10] ∧ s2 = s := by
  have bh := b.hi
  unfold fj2
  bv_omega
  refine ⟨by simp, ?_⟩
  bv_omega
  refine Ok.use (ckclash_ok b.nm (by omega) (by omega)) ?_
  bv_omega
  refine u_now strB ?_
  bv_omega
  refine ⟨by simp, ?_⟩
  bv_omega
  refine u_now (strP hi hj) ?_
  bv_omega
  refine u_now (in_bd (neg := false) (prs_sm b hm hP hR) hi hj) ?_
  rw [if_neg Bool.false_ne_true]
  bv_omega
  refine u_now strB ?_
  refine u_now ne_bS ?_
  refine b_f rfl ?_
  bv_omega
  refine ⟨by simp, ?_⟩
  bv_omega
  refine Ok.use cklist_ok ?_
  bv_omega
  refine u_now isB_ff ?_
  refine b_f rfl ?_
  bv_omega
  refine ⟨by simp, ?_⟩
  bv_omega
  refine Ok.use cktrip_ok ?_
  bv_omega
  refine u_now isB_ff ?_
  refine b_f rfl ?_
  bv_omega
  exact ⟨rfl, rfl⟩
theorem rg_sm {k : Nat} {x : D} {l : Int} (hl : l = (R.length : Int) + 1) (h : (rangeD (-1) 1 (l - (-1)).toNat)[k]? = some x) : ∃ i, x = .int i ∧ Sm i := by
  unfold rangeD at h
  rw [List.getElem?_map] at h
  obtain ⟨k', hk, rfl⟩ := Option.map_eq_some_iff.mp h
  have := (List.getElem?_eq_some_iff.mp hk)
  obtain ⟨h1, h2⟩ := this
  rw [List.length_range] at h1
  rw [List.getElem_range] at h2
  exact ⟨_, rfl, by omega, by omega⟩
theorem j1_ok {i : Int} (hi : Sm i) {p6 p8 p9 p10 : Sl} {p5 : Sl} {s : Sto} : Ok (fj1 [.val (siD A m R), .val (.lst (A.map D.str)), .val (oD m), .val (rwD A R), .val (bdD (prs A m R)), p5, p6, .val (.int i), p8, p9, p10] s) fun o s2 => ∃ q8, o = .nx [.val (siD A m R), .val (.lst (A.map D.str)), .val (oD m), .val (rwD A R), .val (bdD (prs A m R)), p5, p6, .val (.int i), q8, p9, p10] ∧ s2 = s := by
  unfold fj1
  bv_omega
  refine u_now (len_rw (by omega)) ?_
  bv_omega
  refine ⟨_, _, rfl, by decide, inR_t (by omega) (by omega), ?_⟩
  refine (loop_inv (fun k env s2 => ∃ p8, env = [.val (siD A m R), .val (.lst (A.map D.str)), .val (oD m), .val (rwD A R), .val (bdD (prs A m R)), p5, p6, .val (.int i), p8, p9, p10] ∧ s2 = s) _ 0 _ _ ⟨_, rfl, rfl⟩ ?_ (fun _ _ _ => rfl)).mono ?_
  · rintro k x e0 s2 hx ⟨p8, rfl, rfl⟩
    obtain ⟨j, rfl, hj⟩ := rg_sm b hm hP hR rfl hx
    refine ⟨rfl, _, rfl, ?_⟩
    refine (j2_ok b hm hP hR hi hj (p5 := p5) (p6 := p6) (p9 := p9) (p10 := p10) (s := s2)).mono ?_
    rintro o s3 ⟨rfl, rfl⟩
    exact ⟨_, .inl rfl, _, rfl, rfl⟩
  · rintro o s2 ⟨e', rfl, p8, rfl, rfl⟩
    exact ⟨p8, rfl, rfl⟩
end
theorem tj6_ok {A : List Str} {m : Option Int} {R : List Sg} {x1 x2 x3 x4 x5 x6 x7 x8 x9 x10 : Sl} {s : Sto} : tj6 [.val (siD A m R), x1, x2, x3, x4, x5, x6, x7, x8, x9, x10] s = some (.rt (.bl true), s) := by kernel_rfl
section
variable {A : List Str} {m : Option Int} {R : List Sg} (b : Lt A) (hm : ∀ w, m = some w → 0 ≤ w) (hP : ∀ s ∈ R, sgOk s) (hR : R.length ≤ 5)
include b hm hP hR
theorem tj5_ok {p5 p6 p7 p8 p9 p10 : Sl} {s : Sto} : Ok (tj5 [.val (siD A m R), .val (.lst (A.map D.str)), .val (oD m), .val (rwD A R), .val (bdD (prs A m R)), p5, p6, p7, p8, p9, p10] s) fun o s2 => o = .rt (.bl true) ∧ s2 = s := by
  unfold tj5
  bv_omega
  refine u_now (len_rw (by omega)) ?_
  bv_omega
  refine ⟨_, _, rfl, by decide, inR_t (by omega) (by omega), ?_⟩
  refine (loop_inv (fun k env s2 => ∃ p7 p8, env = [.val (siD A m R), .val (.lst (A.map D.str)), .val (oD m), .val (rwD A R), .val (bdD (prs A m R)), p5, p6, p7, p8, p9, p10] ∧ s2 = s) _ 0 _ _ ⟨_, _, rfl, rfl⟩ ?_ (fun _ _ _ => rfl)).mono ?_
  · rintro k x e0 s2 hx ⟨p7, p8, rfl, rfl⟩
    obtain ⟨i, rfl, hi⟩ := rg_sm b hm hP hR rfl hx
    refine ⟨rfl, _, rfl, ?_⟩
    refine (j1_ok b hm hP hR hi (p5 := p5) (p6 := p6) (p8 := p8) (p9 := p9) (p10 := p10) (s := s2)).mono ?_
    rintro o s3 ⟨q8, rfl, rfl⟩
    exact ⟨_, .inl rfl, _, q8, rfl, rfl⟩
  · rintro o s2 ⟨e', rfl, p7, p8, rfl, rfl⟩
    have e := tj6_ok (A := A) (m := m) (R := R) (x1 := .val (.lst (A.map D.str))) (x2 := .val (oD m)) (x3 := .val (rwD A R)) (x4 := .val (bdD (prs A m R))) (x5 := p5) (x6 := p6) (x7 := p7) (x8 := p8) (x9 := p9) (x10 := p10) (s := s2)
    exact ⟨_, _, e, rfl, rfl⟩
theorem nilB_eq {s : Sto} : oEq (bdD (prs A m R)) (.lst []) s = some (.bl (prs A m R).isEmpty) := by
  obtain ⟨d, h1, h2⟩ := u_eqNil (s := s) (Q := fun d => d = .bl (decide ((((prs A m R).map fun p : Nat × Nat => pS p.1 p.2).map PyData.str) = []))) (py_bd (n := 58) (prs_sm b hm hP hR)) rfl
  rw [h1, h2]
  cases prs A m R <;> rfl
theorem tj4_ok {p5 p6 p7 p8 p9 p10 : Sl} {s : Sto} : Ok (tj4 [.val (siD A m R), .val (.lst (A.map D.str)), .val (oD m), .val (rwD A R), .val (bdD (prs A m R)), p5, p6, p7, p8, p9, p10] s) fun o s2 => o = .rt (.bl true) ∧ s2 = s := by
  have bh := b.hi
  unfold tj4
  bv_omega
  refine Ok.use (fits_ok b.nm (by omega) (by omega)) ?_
  bv_omega
  refine u_now strB ?_
  bv_omega
  refine ⟨by decide, ?_⟩
  refine u_now (nilB_eq b hm hP hR) ?_
  bv_omega
  refine u_now strB ?_
  refine u_now ne_bS ?_
  refine b_f rfl ?_
  refine z_snil ?_
  exact tj5_ok b hm hP hR
theorem judged_ok {s : Sto} : Ok (m__law_judged_right [siD A m R, .lst (A.map D.str), oD m, rwD A R] s) fun d s2 => d = .bl true ∧ ∃ ys, s2 = s ++ ys := by
  have bh := b.hi
  have sm := prs_sm (m := m) b hm hP hR
  have pl := prs_le (A := A) (m := m) (R := R) (by omega)
  refine z_fn rfl ?_
  unfold b__law_judged_right
  bv_omega
  refine z_seqI ?_
  bv_omega
  refine Ok.use (lawpairs_ok b.nm (by omega) (by omega)) ?_
  refine ⟨_, .inl rfl, by rw [List.length_map]; omega, ?_⟩
  refine Ok.use (comp_z pD (fun p => .str (pS p.1 p.2)) rfl (prs A m R) fun p hp => ?_) ?_
  · refine ⟨_, rfl, ?_⟩
    bv_omega
    refine u_now (strP (sm.sm p hp).1 (sm.sm p hp).2) ?_
    exact ⟨rfl, rfl⟩
  bv_omega
  refine (grown_ok b hm hP hR).mono ?_
  rintro d s2 ⟨rfl, ys, rfl⟩
  refine b_f rfl ?_
  bv_omega
  refine Ok.use (clash_ok b.nm (by omega) (by omega)) ?_
  bv_omega
  refine ⟨by decide, ?_⟩
  refine u_now (nilB_eq b hm hP hR) ?_
  rw [fstP_non]
  refine u_now (neB b hm hP hR _) ?_
  refine b_f rfl ?_
  bv_omega
  have last : ∀ {p6 : Sl}, Ok (tj4 [.val (siD A m R), .val (.lst (A.map D.str)), .val (oD m), .val (rwD A R), .val (bdD (prs A m R)), .un, p6, .un, .un, .un, .un] (s ++ ys)) fun o s2 => match o with
      | .rt d => d = .bl true ∧ ∃ ys, s2 = s ++ ys
      | .nx _ => D.non = .bl true ∧ ∃ ys, s2 = s ++ ys
      | _ => False := fun {p6} => (tj4_ok b hm hP hR).mono fun o s3 ⟨e1, e2⟩ => by
    subst e1
    subst e2
    exact ⟨rfl, ys, rfl⟩
  rcases hpp : prs A m R with _ | ⟨p, l⟩
  · rw [← hpp, show isNonD (fstP (prs A m R)) = true by rw [hpp]; rfl]
    change Ok _ _
    refine z_snil ?_
    exact last
  · have hp : p ∈ prs A m R := by rw [hpp]; simp
    rw [← hpp, show isNonD (fstP (prs A m R)) = false by rw [hpp]; rfl]
    change Ok _ _
    bv_omega
    have ef : fstP (prs A m R) = pD p := by rw [hpp]; rfl
    refine u_now (a := .str (pS p.1 p.2)) (by rw [ef]; exact strP (sm.sm p hp).1 (sm.sm p hp).2) ?_
    bv_omega
    have em : memP p.1 p.2 (prs A m R) = true := by
      unfold memP
      rw [List.any_eq_true]
      exact ⟨p, hp, by simp⟩
    refine u_now (in_bd (neg := true) sm (sm.sm p hp).1 (sm.sm p hp).2) ?_
    rw [em]
    refine b_f rfl ?_
    refine z_snil ?_
    exact last
end
end K64

namespace LW
open PySem L2
/-- a comprehension without a test, its items counted -/
theorem comp_cnt {chk : Sto → Bool} {asg : D → Env → Option Env} {elt : SE} {env0 : Env} (I : Nat → List D → Sto → Prop) (hc : ∀ s, chk s = true) : ∀ (xs : List D) (i : Nat) (acc : List D) (st : Sto), I i acc st →
    (∀ (j : Nat) (x : D), xs[j]? = some x → ∀ acc s, I (i + j) acc s → ∃ e1, asg x env0 = some e1 ∧ Ok (elt e1 s) fun y s2 => I (i + j + 1) (acc ++ [y]) s2) →
    Ok (compM chk asg bYes elt env0 xs st) fun ys s => I (i + xs.length) (acc ++ ys) s
  | [], i, acc, st, h, _ => ⟨_, st, by unfold compM; rw [if_pos (hc _)], by rw [List.append_nil]; exact h⟩
  | x :: xs, i, acc, st, h, hs => by
    obtain ⟨e1, a1, y, s1, hb, h1⟩ := hs 0 x rfl acc st h
    obtain ⟨ys, s2, r, q⟩ := comp_cnt I hc xs (i + 1) (acc ++ [y]) s1 h1 fun j z hz acc s hI => by
      have := hs (j + 1) z (by simpa using hz) acc s (by rwa [show i + (j + 1) = i + 1 + j by omega])
      rwa [show i + (j + 1) + 1 = i + 1 + j + 1 by omega] at this
    refine ⟨y :: ys, s2, ?_, ?_⟩
    · unfold compM
      rw [if_pos (hc _), a1]
      dsimp only
      rw [show bYes e1 st = some (true, st) from rfl]
      dsimp only
      rw [hb]
      dsimp only
      rw [r]
    · rw [List.append_assoc] at q
      rw [List.length_cons, show i + (xs.length + 1) = i + 1 + xs.length by omega]
      exact q
end LW
namespace K64
open PySem L2 LW
local macro_rules | `(tactic| bv_omega) => `(tactic| (repeat (first | with_reducible first | refine z_var (by with_unfolding_all rfl) ?_ | refine z_pk (by with_unfolding_all rfl) ?_ | refine z_pkO (by with_unfolding_all rfl) ?_ | refine z_retO (by with_unfolding_all rfl) ?_ | refine z_dictO (by with_unfolding_all rfl) ?_ | refine z_c ?_ | refine z_op ?_ | refine z_nil ?_ | refine z_cons ?_ | refine z_tup ?_ | refine z_lst ?_ | refine z_L ?_ | refine z_bi ?_ | refine z_call ?_ | refine z_meth ?_ | refine z_prop ?_ | refine z_fld ?_ | refine z_make ?_ | refine z_not ?_ | refine z_neg ?_ | refine z_bits ?_ | refine t_of ?_ | refine t_not ?_ | refine z_slN ?_ | refine z_oN ?_ | refine z_oS ?_ | refine z_snil ?_ | refine z_seq ?_ | refine z_set ?_ | refine z_own ?_ | refine z_ret ?_ | refine z_retC ?_ | refine z_drop ?_ | refine z_frz ?_ | refine z_app ?_ | refine z_appC ?_ | refine z_putC ?_ | refine z_for ?_ | refine z_lc ?_ | refine z_yes ?_ | refine z_kv ?_ | refine z_ko ?_ | refine z_par ?_ | refine z_unp ?_ | refine z_sfld ?_ | refine z_rg1 ?_ | refine z_rg2 ?_ | refine z_rg3 ?_ | refine z_and ?_ | refine z_or ?_ | refine z_eif ?_ | refine t_and ?_ | refine t_or ?_ | refine z_sif ?_ | refine u_add ?_ | refine u_sub ?_ | refine u_lt ?_ | refine u_le ?_ | refine u_gt ?_ | refine u_ge ?_ | refine u_isN ?_ | refine u_notN ?_ | refine z_par3 ?_ | refine z_dcl ?_ | refine z_cel ?_ | refine z_putDC ?_ | refine z_clrC ?_ | refine z_ownD ?_ | refine z_lenSN ?_ | refine z_D ?_ | refine z_dComp ?_ | refine z_lc2 ?_ | refine z_sn ?_ | refine z_makeC ?_ | refine z_methC ?_ | refine z_fldC ?_ | refine z_sfldC ?_ | refine z_xSet ?_ | refine z_methX ?_ | refine z_methCX ?_ | refine z_xIfE ?_ | refine z_xEL ?_ | refine z_xPar2 (by decide) ?_ | refine z_kD2 ?_ | refine z_par2 (by decide) ?_ | refine z_d0 ?_ | refine z_xBare ?_ | refine z_xFrz ?_ | refine z_xFor ?_ | refine z_sortIt ?_ | refine z_lenO ?_ | refine z_xSeq ?_ | refine z_xIf ?_ | refine z_xRaise ?_ | refine z_xL ?_ | refine z_xNil ?_ | refine z_xDrop ?_ | refine z_xRet ?_ | refine z_eCallX ?_ | refine z_sTry ?_ | refine z_DT ?_ | refine z_t0 ?_ | refine z_Td ?_ | refine z_ownT ?_ | refine z_putT ?_ | refine z_frzT ?_ | refine z_par3T ?_ | refine z_toT ?_ | refine z_join ?_ | refine z_sw3 ?_ | refine z_err ?_ | refine z_err0 ?_ | refine z_errB ?_ | refine z_zipL ?_ | refine z_aStar ?_ | refine z_rgV ?_ | refine z_irgV ?_ | (with_reducible refine u_mul ?_ ?_; next => first | exact mulC_r (by decide) (by decide) | exact mulC_l (by decide) (by decide) | exact mulC_r (by omega) (by omega) | exact mulC_l (by omega) (by omega)) | (with_reducible refine u_mod ?_ ?_; next => first | decide | assumption | omega) | (with_reducible refine u_div ?_ ?_; next => first | exact divC_s (by decide) (by decide) | exact divC_s (by omega) (by omega)))))
/-! ### what rows tell; drawn rows and sights -/
def mx (l : List Int) : Int := (maxL l).getD 0
def mn (l : List Int) : Int := (minL l).getD 0
theorem maxL_some : ∀ {l : List Int}, l ≠ [] → maxL l = some (mx l)
  | [], h => absurd rfl h
  | x :: r, _ => by
    unfold mx
    cases h : maxL (x :: r) with
    | none => unfold maxL at h; split at h <;> cases h
    | some m => rfl
theorem minL_some : ∀ {l : List Int}, l ≠ [] → minL l = some (mn l)
  | [], h => absurd rfl h
  | x :: r, _ => by
    unfold mn
    cases h : minL (x :: r) with
    | none => unfold minL at h; split at h <;> cases h
    | some m => rfl
/-- a row: names and waits -/
abbrev Rw := List Str × (Str → Int)
abbrev loD (r : Rw) : D := hrD r.1 r.2
structure RwOk (A : List Str) (r : Rw) : Prop where
  ne : r.1 ≠ []
  sub : ∀ z ∈ r.1, z ∈ A
  nd : r.1.Nodup
  few : r.1.length ≤ 20
/-- what a row tells, what a lot of rows tells -/
def rh (h : Str → Int) (r : Rw) : Int := mx (r.1.map fun z => h z + r.2 z)
def ft (h : Str → Int) (L : List Rw) : Int := mn (L.map (rh h))
theorem rowhour_ok {A : List Str} {r : Rw} {h : Str → Int} {st : Sto} (ok : RwOk A r) : m__law_row_hour [loD r, hrD A h] st = some (.int (rh h r), st) := by
  have hf := ok.few
  refine Ok.eq (z_fn rfl ?_)
  unfold b__law_row_hour
  bv_omega
  refine z_ky rfl ?_
  refine ⟨by show ((r.1.map Sum.inr).map keyV).length ≤ 1000000; rw [List.length_map, List.length_map]; omega, ?_⟩
  rw [keys_hr]
  refine Ok.use (comp_z D.str (fun z => .int (h z + r.2 z)) rfl r.1 fun z hz => ?_) ?_
  · refine ⟨_, rfl, ?_⟩
    bv_omega
    refine u_now (dx_hr (ok.sub z hz) _) ?_
    bv_omega
    refine u_now (dx_hr hz _) ?_
    bv_omega
    exact ⟨rfl, rfl⟩
  bv_omega
  refine u_now (a := .int (rh h r)) ?_ ?_
  · have e0 : (r.1.map fun z => D.int (h z + r.2 z)) = (r.1.map fun z => h z + r.2 z).map D.int := by
      rw [List.map_map]
      rfl
    have e : lstI st (.lst (r.1.map fun z => D.int (h z + r.2 z))) = some (r.1.map fun z => h z + r.2 z) := by
      rw [e0]
      exact intsOf_map _
    unfold gMax
    dsimp only
    rw [e]
    dsimp only
    rw [maxL_some (by simpa using ok.ne)]
    rfl
  bv_omega
  exact ⟨rfl, rfl⟩
theorem firsttold_ok {A : List Str} {L : List Rw} {h : Str → Int} {st : Sto} (ok : ∀ r ∈ L, RwOk A r) (ne : L ≠ []) (hl : L.length ≤ 10000) : m__law_first_told [.lst (L.map loD), hrD A h] st = some (.int (ft h L), st) := by
  refine Ok.eq (z_fn rfl ?_)
  unfold b__law_first_told
  bv_omega
  refine z_seqI ?_
  bv_omega
  refine ⟨_, .inl rfl, by rw [List.length_map]; omega, ?_⟩
  refine Ok.use (comp_z loD (fun r => .int (rh h r)) rfl L fun r hr => ?_) ?_
  · refine ⟨_, rfl, ?_⟩
    bv_omega
    refine Ok.use (rowhour_ok (ok r hr)) ?_
    exact ⟨rfl, rfl⟩
  bv_omega
  refine u_now (a := .int (ft h L)) ?_ ?_
  · have e0 : (L.map fun r => D.int (rh h r)) = (L.map (rh h)).map D.int := by
      rw [List.map_map]
      rfl
    have e : lstI st (.lst (L.map fun r => D.int (rh h r))) = some (L.map (rh h)) := by
      rw [e0]
      exact intsOf_map _
    unfold gMin
    dsimp only
    rw [e]
    dsimp only
    rw [minL_some (by simpa using ne)]
    rfl
  bv_omega
  exact ⟨rfl, rfl⟩
theorem ex_fun : ∀ (Z : List Str) (ws : List Int), Z.Nodup → ws.length = Z.length → ∃ w : Str → Int, ws = Z.map w
  | [], [], _, _ => ⟨fun _ => 0, rfl⟩
  | [], _ :: _, _, h => by cases h
  | _ :: _, [], _, h => by cases h
  | z :: Z, x :: ws, nd, h => by
    obtain ⟨w, e⟩ := ex_fun Z ws (List.nodup_cons.mp nd).2 (by simpa using h)
    refine ⟨fun y => if y = z then x else w y, ?_⟩
    rw [List.map_cons, if_pos rfl]
    congr 1
    rw [e]
    refine List.map_congr_left fun y hy => ?_
    have q : ¬ y = z := fun q => (List.nodup_cons.mp nd).1 (q ▸ hy)
    rw [if_neg q]
theorem zipD_map {Z : List Str} {w : Str → Int} : zipD (Z.map D.str) ((Z.map w).map D.int) = Z.map fun z => D.tup [.str z, .int (w z)] := by
  unfold zipD
  induction Z with
  | nil => rfl
  | cons z Z ih =>
    rw [List.map_cons, List.map_cons, List.map_cons, List.zip_cons_cons, List.map_cons, ih]
    rfl
theorem oneI {n k : Nat} {st : Sto} {is : List Int} (P : Pc k n st) (hn : n < 2 ^ 50) (h0 : 0 < is.length) (hm : is.length < 1000) {Q : D → Sto → Prop} (h : ∀ i s, Pc k (n + 4) s → Keep k st s → i ∈ is → Q (.int i) s) : Ok (m__law_one_of [.cell k, .lst (is.map D.int)] st) Q :=
  oneK P hn (by rw [List.length_map]; exact h0) (by rw [List.length_map]; exact hm) fun d s P' K' hd => by
    obtain ⟨i, hi, rfl⟩ := List.mem_map.mp hd
    exact h i s P' K' hi
theorem hiddenK {n k : Nat} {st : Sto} {A : List Str} {m : Option Int} (b : Lt A) (hm : ∀ w, m = some w → 0 ≤ w ∧ w < 2 ^ 90) (P : Pc k n st) (hn : n < 2 ^ 40) {Q : D → Sto → Prop}
    (h : ∀ L s, Pc k (n + 20000) s → Keep k st s → L ≠ [] → (∀ r ∈ L, RwOk A r) → L.length ≤ 3 → Q (.lst (L.map loD)) s) : Ok (m__law_hidden [.cell k, .lst (A.map D.str), oD m] st) Q := by
  have bl := b.lo
  have bh := b.hi
  refine z_fn rfl ?_
  unfold b__law_hidden
  bv_omega
  refine ⟨by decide, ?_⟩
  bv_omega
  refine drawK P (by omega) (m := 3) (by decide) (by decide) fun r s1 P1 K1 r0 r1 => ?_
  bv_omega
  refine ⟨_, rfl, inR_t (by omega) (by omega), ?_⟩
  refine (loop_inv (fun i env s => ∃ (L : List Rw) (p4 p5 p6 p7 p8 : Sl), env = [.val (.cell k), .val (.lst (A.map D.str)), .val (oD m), .own (L.map loD), p4, p5, p6, p7, p8] ∧ L.length = i ∧ (∀ r ∈ L, RwOk A r) ∧ Pc k (n + 4 + 3000 * i) s ∧ Keep k st s) _ 0 _ _ ⟨[], _, _, _, _, _, rfl, rfl, by simp, P1, K1⟩ ?_ (fun _ _ _ => rfl)).mono ?_
  · rintro i x e0 s hx ⟨L, p4, p5, p6, p7, p8, rfl, hL, hok, P2, K2⟩
    have hi := (List.getElem?_eq_some_iff.mp hx).1
    rw [rangeD_len] at hi
    rw [Nat.zero_add] at hL P2
    refine ⟨rfl, _, rfl, ?_⟩
    bv_omega
    refine shuffleK P2 (by omega) (by omega) fun ys s2 P3 K3 pm => ?_
    bv_omega
    refine u_now (a := .int A.length) (by show some (D.int ((A.map D.str).length : Nat)) = _; rw [List.length_map]) ?_
    bv_omega
    refine drawK P3 (by omega) (m := (A.length : Int)) (by omega) (by omega) fun r2 s3 P4 K4 q0 q1 => ?_
    bv_omega
    refine u_now (a := (ys.take (r2.toNat + 1)).map D.str) ?_ ?_
    · show some (cutD (ys.map D.str) none (some (1 + r2))) = _
      rw [cutD_strs, show (1 + r2 : Int) = ((r2.toNat + 1 : Nat) : Int) by omega, cut_take]
    bv_omega
    refine u_pow (by decide +kernel) ?_
    bv_omega
    refine u_pow (by decide +kernel) ?_
    bv_omega
    refine ⟨by simp, ?_⟩
    bv_omega
    refine oneI (is := [0, 0, 0, 10 ^ Int.toNat 11, -10 ^ Int.toNat 9]) P4 (by omega) (by simp) (by simp) fun far s4 P5 K5 _ => ?_
    bv_omega
    refine z_seqI ?_
    bv_omega
    have zl : (ys.take (r2.toNat + 1)).length = r2.toNat + 1 := by rw [List.length_take, pm.length_eq]; omega
    generalize hZ : ys.take (r2.toNat + 1) = Z at zl ⊢
    have znd : Z.Nodup := by rw [← hZ]; exact (pm.nodup_iff.mpr b.nd).sublist (List.take_sublist _ _)
    have zsub : ∀ z ∈ Z, z ∈ A := fun z hz => by rw [← hZ] at hz; exact pm.mem_iff.mp (List.mem_of_mem_take hz)
    refine ⟨_, .inl rfl, by rw [List.length_map]; omega, ?_⟩
    refine (comp_cnt (fun j acc s => ∃ ws : List Int, acc = ws.map D.int ∧ ws.length = j ∧ Pc k (n + 1000 + 3000 * i + 4 * j) s ∧ Keep k s4 s) (fun _ => rfl) _ 0 [] _ ⟨[], rfl, rfl, P5.mono (by omega), Keep.refl⟩ ?_).mono ?_
    · rintro j x hx acc s5 ⟨ws, rfl, hw, P6, K6⟩
      have hj := (List.getElem?_eq_some_iff.mp hx).1
      rw [List.length_map] at hj
      rw [Nat.zero_add] at hw P6 ⊢
      refine ⟨_, rfl, ?_⟩
      rcases m with _ | w
      · bv_omega
        change Ok _ _
        bv_omega
        refine drawK P6 (by omega) (m := 6) (by decide) (by decide) fun r3 s6 P7 K7 _ _ => ?_
        bv_omega
        refine ⟨ws ++ [far + r3 - 2], by rw [List.map_append]; rfl, by rw [List.length_append, hw]; rfl, P7.mono (by omega), K6.trans K7⟩
      · obtain ⟨w0, w1⟩ := hm w rfl
        bv_omega
        change Ok _ _
        bv_omega
        refine drawK P6 (by omega) (m := w + 1) (by omega) (by omega) fun r3 s6 P7 K7 _ _ => ?_
        refine ⟨ws ++ [r3], by rw [List.map_append]; rfl, by rw [List.length_append, hw]; rfl, P7.mono (by omega), K6.trans K7⟩
    · rintro acc s5 ⟨ws, e, hw, P6, K6⟩
      rw [Nat.zero_add, List.length_map] at hw P6
      rw [List.nil_append] at e
      subst e
      obtain ⟨w, rfl⟩ := ex_fun Z ws znd hw
      bv_omega
      refine ⟨_, _, rfl, ?_⟩
      bv_omega
      rw [zipD_map]
      refine u_dictF (f := fun z => .int (w z)) znd ?_
      refine ⟨_, rfl, by rw [List.length_map]; omega, _, .inl rfl, L ++ [(Z, w)], .val x, .val (.lst (Z.map D.str)), .val (.int far), .val (.lst ((Z.map w).map D.int)), p8, ?_, ?_, ?_, ?_, K2.trans (K3.trans (K4.trans (K5.trans K6)))⟩
      · rw [List.map_append]
        rfl
      · rw [List.length_append, hL, Nat.zero_add]
        rfl
      · intro r hr
        rcases List.mem_append.mp hr with q | q
        · exact hok r q
        · rw [List.mem_singleton.mp q]
          exact ⟨(fun q => by have q : Z = [] := q; rw [q] at zl; cases zl), zsub, znd, (by show Z.length ≤ 20; omega)⟩
      · rw [Nat.zero_add]
        exact P6.mono (by omega)
  · rintro o s ⟨e', rfl, L, p4, p5, p6, p7, p8, rfl, hL, hok, P2, K2⟩
    rw [rangeD_len, Nat.zero_add] at hL P2
    bv_omega
    refine h L s (P2.mono (by omega)) K2 (fun q => ?_) hok (by omega)
    rw [q] at hL
    have : (0 : Nat) = (1 + r).toNat := hL
    omega
/-! ### sights drawn -/
abbrev prD (p : Str × Int) : D := .tup [.str p.1, .int p.2]
theorem pr_map {Z : List Str} {w : Str → Int} : (Z.zip (Z.map w)).map prD = Z.map fun z => D.tup [.str z, .int (w z)] := by
  induction Z with
  | nil => rfl
  | cons z Z ih =>
    rw [List.map_cons, List.zip_cons_cons, List.map_cons, ih]
    rfl
theorem spotK {n k : Nat} {st : Sto} (P : Pc k n st) (hn : n < 2 ^ 45) {Q : D → Sto → Prop} (h : ∀ i s, Pc k (n + 8) s → Keep k st s → Q (.int i) s) : Ok (m__law_spot [.cell k] st) Q := by
  refine z_fn rfl ?_
  unfold b__law_spot
  bv_omega
  refine drawK P (by omega) (m := 7) (by decide) (by decide) fun r s1 P1 K1 _ _ => ?_
  bv_omega
  refine ⟨by simp, ?_⟩
  bv_omega
  refine oneI (is := [0, 0, 1, 2, 3, 4, -1, r]) P1 (by omega) (by simp) (by simp) fun i s2 P2 K2 _ => ?_
  exact h i s2 P2 (K1.trans K2)
theorem sightK {n k : Nat} {st : Sto} {A : List Str} {L : List Rw} {base : Int} (b : Lt A) (ok : ∀ r ∈ L, RwOk A r) (ne : L ≠ []) (hl : L.length ≤ 3) (P : Pc k n st) (hn : n < 2 ^ 40) {Q : D → Sto → Prop}
    (h : ∀ r s, Pc k (n + 1000) s → Keep k st s → sgOk r → Q (sgD A r) s) : Ok (m__law_sight [.cell k, .lst (A.map D.str), .lst (L.map loD), .int base] st) Q := by
  have bh := b.hi
  refine z_fn rfl ?_
  unfold b__law_sight
  bv_omega
  refine z_seqI ?_
  bv_omega
  refine ⟨_, .inl rfl, by rw [List.length_map]; omega, ?_⟩
  refine (comp_cnt (fun j acc s => ∃ ws : List Int, acc = ((A.take j).zip ws).map prD ∧ ws.length = j ∧ Pc k (n + 8 * j) s ∧ Keep k st s) (fun _ => rfl) _ 0 [] _ ⟨[], by simp, rfl, P.mono (by omega), Keep.refl⟩ ?_).mono ?_
  · rintro j x hx acc s5 ⟨ws, rfl, hw, P6, K6⟩
    rw [List.getElem?_map] at hx
    obtain ⟨z, hz, rfl⟩ := Option.map_eq_some_iff.mp hx
    have hj := (List.getElem?_eq_some_iff.mp hz).1
    rw [Nat.zero_add] at hw P6 ⊢
    refine ⟨_, rfl, ?_⟩
    bv_omega
    refine spotK P6 (by omega) fun i s6 P7 K7 => ?_
    bv_omega
    refine ⟨by simp, ws ++ [base + i], ?_, by rw [List.length_append, hw]; rfl, P7.mono (by omega), K6.trans K7⟩
    rw [List.take_add_one, hz]
    show _ = ((A.take j ++ [z]).zip (ws ++ [base + i])).map prD
    rw [List.zip_append (by rw [List.length_take, hw]; omega), List.map_append]
    rfl
  · rintro acc s5 ⟨ws, e, hw, P6, K6⟩
    rw [Nat.zero_add, List.length_map] at hw P6 e
    rw [List.nil_append, List.take_length] at e
    subst e
    obtain ⟨g, rfl⟩ := ex_fun A ws b.nd hw
    rw [pr_map]
    bv_omega
    refine u_dictF (f := fun z => .int (g z)) b.nd ?_
    bv_omega
    refine Ok.use (firsttold_ok ok ne (by omega)) ?_
    bv_omega
    refine ⟨by simp, ?_⟩
    bv_omega
    refine oneI (is := [0, 0, 0, 0, 0, 0, 1, -1, 2]) P6 (by omega) (by simp) (by simp) fun i s6 P7 K7 _ => ?_
    bv_omega
    refine drawK P7 (by omega) (m := 4) (by decide) (by decide) fun r1 s7 P8 K8 h1 _ => ?_
    bv_omega
    refine drawK P8 (by omega) (m := 4) (by decide) (by decide) fun r2 s8 P9 K9 h2 _ => ?_
    bv_omega
    refine ⟨by decide, ?_⟩
    bv_omega
    refine drawK P9 (by omega) (m := 5) (by decide) (by decide) fun r3 s9 P10 K10 _ _ => ?_
    bv_omega
    refine u_eq rfl rfl ?_
    rw [eqv_int]
    have hh : ∀ (lo hi : Option Int) s10, (lo = none ∨ lo = some (ft g L + i - r1 / 3)) → (hi = none ∨ hi = some (ft g L + i + r2 / 3)) → Pc k (n + 1000) s10 → Keep k s9 s10 → Q (.tup [hrD A g, oD lo, oD hi]) s10 := fun lo hi s10 e1 e2 P' K' => by
      refine h ⟨g, lo, hi⟩ s10 P' (K6.trans (K7.trans (K8.trans (K9.trans (K10.trans K'))))) ?_
      rcases e1 with rfl | rfl
      · trivial
      · rcases e2 with rfl | rfl
        · trivial
        · show ft g L + i - r1 / 3 ≤ ft g L + i + r2 / 3
          omega
    refine b_dec (fun q => ?_) (fun q => ?_)
    · bv_omega
      refine drawK P10 (by omega) (m := 5) (by decide) (by decide) fun r4 s10 P11 K11 _ _ => ?_
      bv_omega
      refine u_eq rfl rfl ?_
      rw [eqv_int]
      refine b_dec (fun q => ?_) (fun q => ?_)
      · bv_omega
        refine ⟨by simp, ?_⟩
        exact hh none none s10 (.inl rfl) (.inl rfl) (P11.mono (by omega)) K11
      · bv_omega
        refine ⟨by simp, ?_⟩
        exact hh none (some _) s10 (.inl rfl) (.inr rfl) (P11.mono (by omega)) K11
    · bv_omega
      refine drawK P10 (by omega) (m := 5) (by decide) (by decide) fun r4 s10 P11 K11 _ _ => ?_
      bv_omega
      refine u_eq rfl rfl ?_
      rw [eqv_int]
      refine b_dec (fun q => ?_) (fun q => ?_)
      · bv_omega
        refine ⟨by simp, ?_⟩
        exact hh (some _) none s10 (.inr rfl) (.inl rfl) (P11.mono (by omega)) K11
      · bv_omega
        refine ⟨by simp, ?_⟩
        exact hh (some _) (some _) s10 (.inr rfl) (.inr rfl) (P11.mono (by omega)) K11
theorem seenK {n k : Nat} {st : Sto} {A : List Str} {m : Option Int} {many : Int} (b : Lt A) (hm : ∀ w, m = some w → 0 ≤ w ∧ w < 2 ^ 90) (h0 : 0 ≤ many) (h9 : many ≤ 5) (P : Pc k n st) (hn : n < 2 ^ 39) {Q : D → Sto → Prop}
    (h : ∀ R s, Pc k (n + 40000) s → Keep k st s → (∀ r ∈ R, sgOk r) → (R.length : Int) = many → Q (rwD A R) s) : Ok (m__law_seen [.cell k, .lst (A.map D.str), oD m, .int many] st) Q := by
  have bh := b.hi
  refine z_fn rfl ?_
  unfold b__law_seen
  bv_omega
  refine hiddenK b hm P (by omega) fun L s1 P1 K1 ne ok hl => ?_
  bv_omega
  refine ⟨by decide, by decide, ?_⟩
  bv_omega
  refine ⟨_, rfl, inR_t (by omega) (by omega), ?_⟩
  refine (loop_inv (fun i env s => ∃ (R : List Sg) (p6 p7 : Sl), env = [.val (.cell k), .val (.lst (A.map D.str)), .val (oD m), .val (.int many), .val (.lst (L.map loD)), .own (R.map (sgD A)), p6, p7] ∧ R.length = i ∧ (∀ r ∈ R, sgOk r) ∧ Pc k (n + 20000 + 2000 * i) s ∧ Keep k st s) _ 0 _ _ ⟨[], _, _, rfl, rfl, by simp, P1, K1⟩ ?_ (fun _ _ _ => rfl)).mono ?_
  · rintro i x e0 s hx ⟨R, p6, p7, rfl, hL, hok, P2, K2⟩
    have hi := (List.getElem?_eq_some_iff.mp hx).1
    rw [rangeD_len] at hi
    rw [Nat.zero_add] at hL P2
    refine ⟨rfl, _, rfl, ?_⟩
    bv_omega
    refine u_pow (by decide +kernel) ?_
    bv_omega
    refine ⟨by simp, ?_⟩
    bv_omega
    refine oneI (is := [0, 0, 0, 0, 10 ^ Int.toNat 28, -7]) P2 (by omega) (by simp) (by simp) fun base s2 P3 K3 _ => ?_
    bv_omega
    refine sightK b ok ne hl P3 (by omega) fun r s3 P4 K4 hr => ?_
    refine ⟨_, rfl, by rw [List.length_map]; omega, _, .inl rfl, R ++ [r], .val x, .val (.int base), ?_, by rw [List.length_append, hL, Nat.zero_add]; rfl, fun y hy => ?_, P4.mono (by omega), K2.trans (K3.trans K4)⟩
    · rw [List.map_append]
      rfl
    · rcases List.mem_append.mp hy with q | q
      · exact hok y q
      · rw [List.mem_singleton.mp q]
        exact hr
  · rintro o s ⟨e', rfl, R, p6, p7, rfl, hL, hok, P2, K2⟩
    rw [rangeD_len, Nat.zero_add] at hL P2
    bv_omega
    exact h R s (P2.mono (by omega)) K2 hok (by omega)
end K64

namespace K64
open PySem L2 LW
local macro_rules | `(tactic| bv_omega) => `(tactic| (repeat (first | with_reducible first | refine z_var (by with_unfolding_all rfl) ?_ | refine z_pk (by with_unfolding_all rfl) ?_ | refine z_pkO (by with_unfolding_all rfl) ?_ | refine z_retO (by with_unfolding_all rfl) ?_ | refine z_dictO (by with_unfolding_all rfl) ?_ | refine z_c ?_ | refine z_op ?_ | refine z_nil ?_ | refine z_cons ?_ | refine z_tup ?_ | refine z_lst ?_ | refine z_L ?_ | refine z_bi ?_ | refine z_call ?_ | refine z_meth ?_ | refine z_prop ?_ | refine z_fld ?_ | refine z_make ?_ | refine z_not ?_ | refine z_neg ?_ | refine z_bits ?_ | refine t_of ?_ | refine t_not ?_ | refine z_slN ?_ | refine z_oN ?_ | refine z_oS ?_ | refine z_snil ?_ | refine z_seq ?_ | refine z_set ?_ | refine z_own ?_ | refine z_ret ?_ | refine z_retC ?_ | refine z_drop ?_ | refine z_frz ?_ | refine z_app ?_ | refine z_appC ?_ | refine z_putC ?_ | refine z_for ?_ | refine z_lc ?_ | refine z_yes ?_ | refine z_kv ?_ | refine z_ko ?_ | refine z_par ?_ | refine z_unp ?_ | refine z_sfld ?_ | refine z_rg1 ?_ | refine z_rg2 ?_ | refine z_rg3 ?_ | refine z_and ?_ | refine z_or ?_ | refine z_eif ?_ | refine t_and ?_ | refine t_or ?_ | refine z_sif ?_ | refine u_add ?_ | refine u_sub ?_ | refine u_lt ?_ | refine u_le ?_ | refine u_gt ?_ | refine u_ge ?_ | refine u_isN ?_ | refine u_notN ?_ | refine z_par3 ?_ | refine z_dcl ?_ | refine z_cel ?_ | refine z_putDC ?_ | refine z_clrC ?_ | refine z_ownD ?_ | refine z_lenSN ?_ | refine z_D ?_ | refine z_dComp ?_ | refine z_lc2 ?_ | refine z_sn ?_ | refine z_makeC ?_ | refine z_methC ?_ | refine z_fldC ?_ | refine z_sfldC ?_ | refine z_xSet ?_ | refine z_methX ?_ | refine z_methCX ?_ | refine z_xIfE ?_ | refine z_xEL ?_ | refine z_xPar2 (by decide) ?_ | refine z_kD2 ?_ | refine z_par2 (by decide) ?_ | refine z_d0 ?_ | refine z_xBare ?_ | refine z_xFrz ?_ | refine z_xFor ?_ | refine z_sortIt ?_ | refine z_lenO ?_ | refine z_xSeq ?_ | refine z_xIf ?_ | refine z_xRaise ?_ | refine z_xL ?_ | refine z_xNil ?_ | refine z_xDrop ?_ | refine z_xRet ?_ | refine z_eCallX ?_ | refine z_sTry ?_ | refine z_DT ?_ | refine z_t0 ?_ | refine z_Td ?_ | refine z_ownT ?_ | refine z_putT ?_ | refine z_frzT ?_ | refine z_par3T ?_ | refine z_toT ?_ | refine z_join ?_ | refine z_sw3 ?_ | refine z_err ?_ | refine z_err0 ?_ | refine z_errB ?_ | refine z_zipL ?_ | refine z_aStar ?_ | refine z_rgV ?_ | refine z_irgV ?_ | (with_reducible refine u_mul ?_ ?_; next => first | exact mulC_r (by decide) (by decide) | exact mulC_l (by decide) (by decide) | exact mulC_r (by omega) (by omega) | exact mulC_l (by omega) (by omega)) | (with_reducible refine u_mod ?_ ?_; next => first | decide | assumption | omega) | (with_reducible refine u_div ?_ ?_; next => first | exact divC_s (by decide) (by decide) | exact divC_s (by omega) (by omega)))))
/-! ### all rules of two names -/
/-- a row within another one -/
def wi (r q : Rw) : Bool := r.1.all fun z => decide (z ∈ q.1) && decide (r.2 z ≤ q.2 z)
def cmpQ (some : List Rw) (row : Rw) : Bool := some.all fun one => !(wi one row || wi row one)
def grow (F : List (List Rw)) (row : Rw) : List (List Rw) := F ++ (F.filter fun L => cmpQ L row).map (· ++ [row])
def r1 (x : Str) (i : Nat) : Rw := ([x], fun _ => (i : Int))
def r2 (x y : Str) (i j : Nat) : Rw := ([x, y], fun z => if z = x then (i : Int) else (j : Int))
def lots (x y : Str) (w : Nat) : List Rw := (List.range (w + 1)).map (r1 x) ++ (List.range (w + 1)).map (r1 y) ++ (List.range (w + 1)).flatMap fun i => (List.range (w + 1)).map (r2 x y i)
def every (x y : Str) (w : Nat) : List (List Rw) := ((lots x y w).foldl grow [[]]).drop 1
abbrev ltD (L : List Rw) : D := .lst (L.map loD)
theorem wi_has {r q : Rw} {z : Str} {st : Sto} : oInK true (.str z) (loD q) st = some (.bl (!decide (z ∈ q.1))) := (Hr.d q.1 q.2).has
theorem within_ok {r q : Rw} {st : Sto} (hr : ∀ z ∈ r.1, Nm z) (hl : r.1.length ≤ 20) : m__law_within [loD r, loD q] st = some (.bl (wi r q), st) := by
  refine Ok.eq (z_fn rfl ?_)
  unfold b__law_within
  bv_omega
  refine z_ky rfl ?_
  refine ⟨by show ((r.1.map Sum.inr).map keyV).length ≤ 1000000; rw [List.length_map, List.length_map]; omega, ?_⟩
  rw [keys_hr]
  refine Ok.use (comp_zf D.str D.str (fun z => !(decide (z ∈ q.1) && decide (r.2 z ≤ q.2 z))) rfl r.1 fun z hz => ?_) ?_
  · refine ⟨_, rfl, ?_, fun _ => ?_⟩
    · bv_omega
      refine u_now (wi_has (r := r)) ?_
      by_cases hq : z ∈ q.1
      · rw [decide_eq_true hq]
        refine b_f rfl ?_
        bv_omega
        refine u_now (dx_hr hz _) ?_
        bv_omega
        refine u_now (dx_hr hq _) ?_
        bv_omega
        refine ⟨?_, rfl⟩
        by_cases q2 : r.2 z ≤ q.2 z
        · simp [q2]
        · simp [q2]
          omega
      · rw [decide_eq_false hq]
        refine b_t rfl ?_
        exact ⟨rfl, rfl⟩
    · bv_omega
      exact ⟨rfl, rfl⟩
  bv_omega
  refine ⟨by decide, ?_⟩
  refine u_eqNil (py_lstS fun z hz => (hr z (List.mem_filter.mp hz).1).ok) ?_
  refine ⟨?_, rfl⟩
  congr 1
  unfold wi
  rw [Bool.eq_iff_iff, decide_eq_true_iff, List.map_eq_nil_iff, List.filter_eq_nil_iff, List.all_eq_true]
  exact ⟨fun h z hz => by have := h z hz; simpa using this, fun h z hz => by have := h z hz; simpa using this⟩
noncomputable abbrev fe3 : SS := (sIf (bOf (eOp oEqN (eL (lComp (iSeq (eVar 7)) (asgN 8) (bOr (bOf (eCall m__law_within [] (aCons (eVar 8) (aCons (eVar 6) (aNil))))) (bOf (eCall m__law_within [] (aCons (eVar 6) (aCons (eVar 8) (aNil)))))) (eVar 8) [8])) (eL (lDisp (aNil)))))
  (sApp 3 (eOp oAdd (ePeek 7) (eL (lDisp (aCons (eVar 6) (aNil))))))
  (sNil))
noncomputable abbrev fe2 : SS := (sFor (iSeq (eL (eBi gList (aCons (ePeek 3) (aNil))))) (asgN 7)
  (sIf (bOf (eOp oEqN (eL (lComp (iSeq (eVar 7)) (asgN 8) (bOr (bOf (eCall m__law_within [] (aCons (eVar 8) (aCons (eVar 6) (aNil))))) (bOf (eCall m__law_within [] (aCons (eVar 6) (aCons (eVar 8) (aNil)))))) (eVar 8) [8])) (eL (lDisp (aNil)))))
  (sApp 3 (eOp oAdd (ePeek 7) (eL (lDisp (aCons (eVar 6) (aNil))))))
  (sNil)))
structure RN (r : Rw) : Prop where
  nm : ∀ z ∈ r.1, Nm z
  few : r.1.length ≤ 20
theorem e3_ok {p0 p1 p2 p4 p5 p8 : Sl} {F : List (List Rw)} {L : List Rw} {row : Rw} {s : Sto} (hL : ∀ r ∈ L, RN r) (hr : RN row) (hl : L.length ≤ 1000) (hF : F.length < 1000000) :
    Ok (fe3 [p0, p1, p2, .own (F.map ltD), p4, p5, .val (loD row), .val (ltD L), p8] s) fun o s2 => o = .nx [p0, p1, p2, .own ((if cmpQ L row then F ++ [L ++ [row]] else F).map ltD), p4, p5, .val (loD row), .val (ltD L), p8] ∧ s2 = s := by
  unfold fe3
  bv_omega
  refine z_seqI ?_
  bv_omega
  refine ⟨_, .inl rfl, by rw [List.length_map]; omega, ?_⟩
  refine Ok.use (comp_zf loD loD (fun one => wi one row || wi row one) rfl L fun one ho => ?_) ?_
  · refine ⟨_, rfl, ?_, fun _ => ?_⟩
    · bv_omega
      refine Ok.use (within_ok (hL one ho).nm (hL one ho).few) ?_
      cases h : wi one row with
      | true =>
        refine b_t rfl ?_
        exact ⟨rfl, rfl⟩
      | false =>
        refine b_f rfl ?_
        bv_omega
        refine Ok.use (within_ok hr.nm hr.few) ?_
        exact ⟨rfl, rfl⟩
    · bv_omega
      exact ⟨rfl, rfl⟩
  bv_omega
  refine ⟨by decide, ?_⟩
  refine u_now g_eqN ?_
  have e : ((L.filter fun one => wi one row || wi row one).map loD).isEmpty = cmpQ L row := by
    unfold cmpQ
    rw [List.isEmpty_map, Bool.eq_iff_iff, List.isEmpty_iff, List.filter_eq_nil_iff, List.all_eq_true]
    exact ⟨fun h z hz => by have := h z hz; simpa using this, fun h z hz => by have := h z hz; simpa using this⟩
  rw [e]
  cases hq : cmpQ L row with
  | false =>
    refine b_f rfl ?_
    bv_omega
    exact ⟨rfl, rfl⟩
  | true =>
    refine b_t rfl ?_
    bv_omega
    refine ⟨by simp, ?_⟩
    refine u_addL rfl rfl (by rw [List.length_map, List.length_singleton]; omega) ?_
    refine ⟨_, rfl, by rw [List.length_map]; exact hF, ?_, rfl⟩
    rw [if_pos rfl, List.map_append]
    show _ = Out.nx [p0, p1, p2, .own (F.map ltD ++ [ltD (L ++ [row])]), p4, p5, .val (loD row), .val (ltD L), p8]
    rw [show ltD (L ++ [row]) = .lst (L.map loD ++ [loD row]) from congrArg D.lst (List.map_append ..)]
    rfl
theorem filt_map_snoc {α β : Type} {p : α → Bool} {g : α → β} {A : List α} {i : Nat} {n : α} (h : A[i]? = some n) : ((A.take (i + 1)).filter p).map g = if p n then ((A.take i).filter p).map g ++ [g n] else ((A.take i).filter p).map g := by
  rw [filt_snoc h]
  by_cases q : p n = true
  · rw [if_pos q, if_pos q, List.map_append]
    rfl
  · rw [if_neg q, if_neg q]
theorem e2_ok {p0 p1 p2 p4 p5 p7 p8 : Sl} {F : List (List Rw)} {row : Rw} {s : Sto} (hF : ∀ L ∈ F, (∀ r ∈ L, RN r) ∧ L.length ≤ 1000) (hr : RN row) (hl : F.length < 400000) :
    Ok (fe2 [p0, p1, p2, .own (F.map ltD), p4, p5, .val (loD row), p7, p8] s) fun o s2 => ∃ q7 q8, o = .nx [p0, p1, p2, .own ((grow F row).map ltD), p4, p5, .val (loD row), q7, q8] ∧ s2 = s := by
  unfold fe2
  bv_omega
  refine z_seqI ?_
  bv_omega
  refine u_now rfl ?_
  refine ⟨_, .inl rfl, ?_⟩
  refine (loop_inv (fun i env s2 => ∃ q7 q8, env = [p0, p1, p2, .own ((F ++ ((F.take i).filter fun L => cmpQ L row).map (· ++ [row])).map ltD), p4, p5, .val (loD row), q7, q8] ∧ s2 = s) _ 0 _ _ ⟨p7, p8, by simp, rfl⟩ ?_ (fun _ _ _ => rfl)).mono ?_
  · rintro i x e0 s2 hx ⟨q7, q8, rfl, rfl⟩
    rw [List.getElem?_map] at hx
    obtain ⟨L, hL, rfl⟩ := Option.map_eq_some_iff.mp hx
    have hm := hF L (List.mem_of_getElem? hL)
    have f1 := List.length_filter_le (fun L => cmpQ L row) (F.take i)
    rw [List.length_take] at f1
    rw [Nat.zero_add]
    refine ⟨rfl, _, rfl, ?_⟩
    refine (e3_ok (p0 := p0) (p1 := p1) (p2 := p2) (p4 := p4) (p5 := p5) (p8 := q8) (F := F ++ ((F.take i).filter fun L => cmpQ L row).map (· ++ [row])) (s := s2) hm.1 hr hm.2 (by rw [List.length_append, List.length_map]; omega)).mono ?_
    rintro o s3 ⟨rfl, rfl⟩
    refine ⟨_, .inl rfl, .val (ltD L), q8, ?_, rfl⟩
    rw [filt_map_snoc (g := (· ++ [row])) hL]
    by_cases q : cmpQ L row = true
    · rw [if_pos q, if_pos q, List.append_assoc]
    · rw [if_neg q, if_neg q]
  · rintro o s2 ⟨e', rfl, q7, q8, rfl, rfl⟩
    rw [List.length_map, Nat.zero_add, List.take_length]
    exact ⟨q7, q8, rfl, rfl⟩
theorem grow_len {F : List (List Rw)} {row : Rw} : (grow F row).length ≤ 2 * F.length := by
  unfold grow
  have := List.length_filter_le (fun L => cmpQ L row) F
  rw [List.length_append, List.length_map]
  omega
theorem grow_mem {F : List (List Rw)} {row : Rw} {L : List Rw} (h : L ∈ grow F row) : L ∈ F ∨ ∃ M ∈ F, cmpQ M row = true ∧ L = M ++ [row] := by
  unfold grow at h
  rcases List.mem_append.mp h with q | q
  · exact .inl q
  · obtain ⟨M, hM, rfl⟩ := List.mem_map.mp q
    exact .inr ⟨M, (List.mem_filter.mp hM).1, (List.mem_filter.mp hM).2, rfl⟩
theorem fold_len : ∀ (l : List Rw) (F : List (List Rw)), (l.foldl grow F).length ≤ 2 ^ l.length * F.length
  | [], F => by simp
  | r :: l, F => by
    have h1 := fold_len l (grow F r)
    have h2 := grow_len (F := F) (row := r)
    rw [List.foldl_cons, List.length_cons, Nat.pow_succ]
    have h3 := Nat.mul_le_mul_left (2 ^ l.length) h2
    rw [← Nat.mul_assoc] at h3
    omega
theorem fold_ok {n : Nat} : ∀ (l : List Rw) (F : List (List Rw)), (∀ r ∈ l, RN r) → (∀ L ∈ F, (∀ r ∈ L, RN r) ∧ L.length ≤ n) → ∀ L ∈ l.foldl grow F, (∀ r ∈ L, RN r) ∧ L.length ≤ n + l.length
  | [], F, _, h => fun L hL => ⟨(h L hL).1, Nat.le_trans (h L hL).2 (Nat.le_add_right _ _)⟩
  | r :: l, F, hl, h => fun L hL => by
    have := fold_ok (n := n + 1) l (grow F r) (fun y hy => hl y (by simp [hy])) (fun M hM => by
      rcases grow_mem hM with q | ⟨M', q, _, rfl⟩
      · exact ⟨(h M q).1, Nat.le_trans (h M q).2 (by omega)⟩
      · refine ⟨fun y hy => ?_, by rw [List.length_append]; have := (h M' q).2; simp; omega⟩
        rcases List.mem_append.mp hy with z | z
        · exact (h M' q).1 y z
        · rw [List.mem_singleton.mp z]
          exact hl r (by simp)) L hL
    rw [List.length_cons]
    exact ⟨this.1, by have := this.2; omega⟩
theorem range3 {w : Nat} : (rangeD 0 1 ((w : Int) + 1).toNat) = (List.range (w + 1)).map fun (i : Nat) => D.int (i : Int) := by
  rw [show ((w : Int) + 1).toNat = w + 1 by omega, rangeD_nat]
section
variable {x y : Str} {w : Nat} (hx : Nm x) (hy : Nm y) (nxy : x ≠ y) (hw : w ≤ 2)
include hx hy nxy hw
theorem lots_RN : ∀ r ∈ lots x y w, RN r := by
  intro r hr
  unfold lots at hr
  rcases List.mem_append.mp hr with q | q
  · rcases List.mem_append.mp q with q | q
    · obtain ⟨i, _, rfl⟩ := List.mem_map.mp q
      exact ⟨fun z hz => by rw [List.mem_singleton.mp hz]; exact hx, by show 1 ≤ 20; decide⟩
    · obtain ⟨i, _, rfl⟩ := List.mem_map.mp q
      exact ⟨fun z hz => by rw [List.mem_singleton.mp hz]; exact hy, by show 1 ≤ 20; decide⟩
  · obtain ⟨i, _, q⟩ := List.mem_flatMap.mp q
    obtain ⟨j, _, rfl⟩ := List.mem_map.mp q
    refine ⟨fun z hz => ?_, by show 2 ≤ 20; decide⟩
    rcases List.mem_cons.mp hz with q | q
    · rw [q]; exact hx
    · rw [List.mem_singleton.mp q]; exact hy
theorem lots_len : (lots x y w).length ≤ 15 := by
  unfold lots
  rw [List.length_append, List.length_append, List.length_map, List.length_map, List.length_range]
  have : ∀ l : List Nat, (l.flatMap fun i => (List.range (w + 1)).map (r2 x y i)).length = l.length * (w + 1) := fun l => by
    induction l with
    | nil => simp
    | cons a l ih => rw [List.flatMap_cons, List.length_append, ih, List.length_map, List.length_range, List.length_cons, Nat.succ_mul]; omega
  rw [this, List.length_range]
  have : (w + 1) * (w + 1) ≤ 3 * 3 := Nat.mul_le_mul (by omega) (by omega)
  omega
theorem every_ok {s : Sto} : m__law_every [.lst [.str x, .str y], .int w] s = some (.lst ((every x y w).map ltD), s) := by
  have hl := lots_len hx hy nxy hw
  have hRN := lots_RN hx hy nxy hw
  refine Ok.eq (z_fn rfl ?_)
  unfold b__law_every
  bv_omega
  refine ⟨_, rfl, inR_t (by omega) (by omega), ?_, ?_⟩
  · rw [range3, List.length_map, List.length_range]; omega
  rw [range3]
  refine Ok.use (comp_z (fun i : Nat => D.int (i : Int)) (fun i => loD (r1 x i)) rfl (List.range (w + 1)) fun i hi => ?_) ?_
  · refine ⟨_, rfl, ?_⟩
    bv_omega
    refine u_ixL rfl ?_
    bv_omega
    refine ⟨by simp, ?_⟩
    bv_omega
    refine ⟨by simp, ?_⟩
    bv_omega
    refine u_dictF (zs := [x]) (f := fun _ => .int (i : Int)) (by simp) ?_
    exact ⟨rfl, rfl⟩
  bv_omega
  refine ⟨by decide, ?_⟩
  bv_omega
  refine ⟨by simp, by decide, ?_⟩
  bv_omega
  refine ⟨_, rfl, inR_t (by omega) (by omega), ?_, ?_⟩
  · rw [range3, List.length_map, List.length_range]; omega
  rw [range3]
  refine Ok.use (comp_z (fun i : Nat => D.int (i : Int)) (fun i => loD (r1 y i)) rfl (List.range (w + 1)) fun i hi => ?_) ?_
  · refine ⟨_, rfl, ?_⟩
    bv_omega
    refine u_ixL rfl ?_
    bv_omega
    refine ⟨by simp, ?_⟩
    bv_omega
    refine ⟨by simp, ?_⟩
    bv_omega
    refine u_dictF (zs := [y]) (f := fun _ => .int (i : Int)) (by simp) ?_
    exact ⟨rfl, rfl⟩
  bv_omega
  refine u_addL rfl rfl (by rw [List.length_map, List.length_map, List.length_range]; omega) ?_
  bv_omega
  refine ⟨_, rfl, inR_t (by omega) (by omega), ?_⟩
  rw [range3]
  refine (loop_inv (fun k env s2 => ∃ p4 p5 p6 p7 p8, env = [.val (.lst [.str x, .str y]), .val (.int w), .val (.lst (((List.range (w + 1)).map fun i => loD (r1 x i)) ++ ((List.range (w + 1)).map fun i => loD (r1 y i)) ++ (((List.range k).flatMap fun i => (List.range (w + 1)).map (r2 x y i)).map loD))), .own [.lst []], p4, p5, p6, p7, p8] ∧ s2 = s) _ 0 _ _ ⟨.un, .un, .un, .un, .un, by simp; rfl, rfl⟩ ?_ (fun _ _ _ => rfl)).mono ?_
  · rintro k v e0 s2 hk ⟨p4, p5, p6, p7, p8, rfl, rfl⟩
    rw [List.getElem?_map] at hk
    obtain ⟨k', hk2, rfl⟩ := Option.map_eq_some_iff.mp hk
    obtain ⟨hlt, rfl⟩ := List.getElem?_eq_some_iff.mp hk2
    rw [List.length_range] at hlt
    rw [List.getElem_range, Nat.zero_add]
    refine ⟨rfl, _, rfl, ?_⟩
    bv_omega
    refine ⟨_, rfl, inR_t (by omega) (by omega), ?_, ?_⟩
    · rw [range3, List.length_map, List.length_range]; omega
    rw [range3]
    refine Ok.use (comp_z (fun i : Nat => D.int (i : Int)) (fun j => loD (r2 x y k j)) rfl (List.range (w + 1)) fun j hj => ?_) ?_
    · refine ⟨_, rfl, ?_⟩
      bv_omega
      refine u_ixL rfl ?_
      bv_omega
      refine ⟨by simp, ?_⟩
      bv_omega
      refine u_ixL rfl ?_
      bv_omega
      refine ⟨by simp, ?_⟩
      bv_omega
      refine ⟨by simp, ?_⟩
      bv_omega
      have e : [D.tup [.str x, .int (k : Int)], D.tup [.str y, .int (j : Int)]] = ([x, y] : List Str).map fun z => D.tup [.str z, .int (if z = x then (k : Int) else (j : Int))] := by simp [Ne.symm nxy]
      rw [e]
      refine u_dictF (zs := [x, y]) (f := fun z => .int (if z = x then (k : Int) else (j : Int))) (by simp [nxy]) ?_
      exact ⟨rfl, rfl⟩
    bv_omega
    have e2 : ((List.range (w + 1)).map fun j => loD (r2 x y k j)) = ((List.range (w + 1)).map (r2 x y k)).map loD := by
      rw [List.map_map]
      rfl
    have fl : ∀ l : List Nat, (l.flatMap fun i => (List.range (w + 1)).map (r2 x y i)).length = l.length * (w + 1) := fun l => by
      induction l with
      | nil => simp
      | cons a l ih => rw [List.flatMap_cons, List.length_append, ih, List.length_map, List.length_range, List.length_cons, Nat.succ_mul]; omega
    have kw : k * (w + 1) ≤ 3 * 3 := Nat.mul_le_mul (by omega) (by omega)
    refine u_addL rfl rfl ?_ ?_
    · rw [List.length_append, List.length_append, List.length_map, List.length_map, List.length_map, fl, List.length_map, List.length_range, List.length_range]
      omega
    refine ⟨_, .inl rfl, .val (.int k), p5, p6, p7, p8, ?_, rfl⟩
    have eq : ((List.range (k + 1)).flatMap fun i => (List.range (w + 1)).map (r2 x y i)).map loD = (((List.range k).flatMap fun i => (List.range (w + 1)).map (r2 x y i)).map loD) ++ ((List.range (w + 1)).map fun j => loD (r2 x y k j)) := by
      rw [e2, List.range_succ (n := k), List.flatMap_append, List.map_append]
      simp
    rw [eq, ← List.append_assoc]
    rfl
  · rintro o s2 ⟨e', rfl, p4, p5, p6, p7, p8, rfl, rfl⟩
    rw [List.length_map, List.length_range, Nat.zero_add]
    have eL : ((List.range (w + 1)).map fun i => loD (r1 x i)) ++ ((List.range (w + 1)).map fun i => loD (r1 y i)) ++ (((List.range (w + 1)).flatMap fun i => (List.range (w + 1)).map (r2 x y i)).map loD) = (lots x y w).map loD := by
      unfold lots
      rw [List.map_append, List.map_append, List.map_map, List.map_map]
      rfl
    rw [eL]
    bv_omega
    refine z_seqI ?_
    bv_omega
    refine ⟨_, .inl rfl, ?_⟩
    refine (loop_inv (fun k env s3 => ∃ p4 p5 p6 p7 p8, env = [.val (.lst [.str x, .str y]), .val (.int w), .val (.lst ((lots x y w).map loD)), .own ((((lots x y w).take k).foldl grow [[]]).map ltD), p4, p5, p6, p7, p8] ∧ s3 = s2) _ 0 _ _ ⟨p4, p5, p6, p7, p8, rfl, rfl⟩ ?_ (fun _ _ _ => rfl)).mono ?_
    · rintro k v e0 s3 hk ⟨p4, p5, p6, p7, p8, rfl, rfl⟩
      rw [List.getElem?_map] at hk
      obtain ⟨row, hrow, rfl⟩ := Option.map_eq_some_iff.mp hk
      rw [Nat.zero_add]
      refine ⟨rfl, _, rfl, ?_⟩
      have hk2 := (List.getElem?_eq_some_iff.mp hrow).1
      have fo := fold_ok (n := 0) ((lots x y w).take k) [[]] (fun r hr => hRN r (List.mem_of_mem_take hr)) (fun L hL => by
        rw [List.mem_singleton.mp hL]
        exact ⟨by simp, by simp⟩)
      have fl := fold_len ((lots x y w).take k) [[]]
      rw [List.length_take, Nat.min_eq_left (by omega)] at fl
      have p2 : 2 ^ k ≤ 2 ^ 15 := Nat.pow_le_pow_right (by decide) (by omega)
      rw [List.length_singleton, Nat.mul_one] at fl
      refine (e2_ok (F := ((lots x y w).take k).foldl grow [[]]) (row := row) (s := s3) (fun L hL => ⟨(fo L hL).1, by have := (fo L hL).2; rw [List.length_take] at this; omega⟩) (hRN row (List.mem_of_getElem? hrow)) (by omega)).mono ?_
      rintro o s4 ⟨q7, q8, rfl, rfl⟩
      refine ⟨_, .inl rfl, p4, p5, .val (loD row), q7, q8, ?_, rfl⟩
      rw [List.take_add_one, hrow, List.foldl_append]
      rfl
    · rintro o s3 ⟨e', rfl, p4, p5, p6, p7, p8, rfl, rfl⟩
      rw [List.length_map, Nat.zero_add, List.take_length]
      bv_omega
      refine u_now (a := (every x y w).map ltD) ?_ ?_
      · show some (cutD (((lots x y w).foldl grow [[]]).map ltD) (some ((1 : Nat) : Int)) none) = _
        rw [cut_drop]
        unfold every
        rw [List.map_drop]
      bv_omega
      exact ⟨rfl, rfl⟩
end
end K64

namespace K64
open PySem L2 LW
local macro_rules | `(tactic| bv_omega) => `(tactic| (repeat (first | with_reducible first | refine z_var (by with_unfolding_all rfl) ?_ | refine z_pk (by with_unfolding_all rfl) ?_ | refine z_pkO (by with_unfolding_all rfl) ?_ | refine z_retO (by with_unfolding_all rfl) ?_ | refine z_dictO (by with_unfolding_all rfl) ?_ | refine z_c ?_ | refine z_op ?_ | refine z_nil ?_ | refine z_cons ?_ | refine z_tup ?_ | refine z_lst ?_ | refine z_L ?_ | refine z_bi ?_ | refine z_call ?_ | refine z_meth ?_ | refine z_prop ?_ | refine z_fld ?_ | refine z_make ?_ | refine z_not ?_ | refine z_neg ?_ | refine z_bits ?_ | refine t_of ?_ | refine t_not ?_ | refine z_slN ?_ | refine z_oN ?_ | refine z_oS ?_ | refine z_snil ?_ | refine z_seq ?_ | refine z_set ?_ | refine z_own ?_ | refine z_ret ?_ | refine z_retC ?_ | refine z_drop ?_ | refine z_frz ?_ | refine z_app ?_ | refine z_appC ?_ | refine z_putC ?_ | refine z_for ?_ | refine z_lc ?_ | refine z_yes ?_ | refine z_kv ?_ | refine z_ko ?_ | refine z_par ?_ | refine z_unp ?_ | refine z_sfld ?_ | refine z_rg1 ?_ | refine z_rg2 ?_ | refine z_rg3 ?_ | refine z_and ?_ | refine z_or ?_ | refine z_eif ?_ | refine t_and ?_ | refine t_or ?_ | refine z_sif ?_ | refine u_add ?_ | refine u_sub ?_ | refine u_lt ?_ | refine u_le ?_ | refine u_gt ?_ | refine u_ge ?_ | refine u_isN ?_ | refine u_notN ?_ | refine z_par3 ?_ | refine z_dcl ?_ | refine z_cel ?_ | refine z_putDC ?_ | refine z_clrC ?_ | refine z_ownD ?_ | refine z_lenSN ?_ | refine z_D ?_ | refine z_dComp ?_ | refine z_lc2 ?_ | refine z_sn ?_ | refine z_makeC ?_ | refine z_methC ?_ | refine z_fldC ?_ | refine z_sfldC ?_ | refine z_xSet ?_ | refine z_methX ?_ | refine z_methCX ?_ | refine z_xIfE ?_ | refine z_xEL ?_ | refine z_xPar2 (by decide) ?_ | refine z_kD2 ?_ | refine z_par2 (by decide) ?_ | refine z_d0 ?_ | refine z_xBare ?_ | refine z_xFrz ?_ | refine z_xFor ?_ | refine z_sortIt ?_ | refine z_lenO ?_ | refine z_xSeq ?_ | refine z_xIf ?_ | refine z_xRaise ?_ | refine z_xL ?_ | refine z_xNil ?_ | refine z_xDrop ?_ | refine z_xRet ?_ | refine z_eCallX ?_ | refine z_sTry ?_ | refine z_DT ?_ | refine z_t0 ?_ | refine z_Td ?_ | refine z_ownT ?_ | refine z_putT ?_ | refine z_frzT ?_ | refine z_par3T ?_ | refine z_toT ?_ | refine z_join ?_ | refine z_sw3 ?_ | refine z_err ?_ | refine z_err0 ?_ | refine z_errB ?_ | refine z_zipL ?_ | refine z_aStar ?_ | refine z_rgV ?_ | refine z_irgV ?_ | (with_reducible refine u_mul ?_ ?_; next => first | exact mulC_r (by decide) (by decide) | exact mulC_l (by decide) (by decide) | exact mulC_r (by omega) (by omega) | exact mulC_l (by omega) (by omega)) | (with_reducible refine u_mod ?_ ?_; next => first | decide | assumption | omega) | (with_reducible refine u_div ?_ ?_; next => first | exact divC_s (by decide) (by decide) | exact divC_s (by omega) (by omega)))))
/-! ### which rules fit -/
def sui (L : List Rw) (s : Sg) : Bool := (match s.lo with
  | none => true
  | some l => decide (l ≤ ft s.h L)) && (match s.hi with
  | none => true
  | some u => decide (ft s.h L ≤ u))
abbrev subody : SS := (sSeq (sSet 5 (eCall m__law_first_told [] (aCons (eVar 0) (aCons (eVar 2) (aNil)))))
  (sIf (bOr (bAnd (bOf (eOp oNotN (ePeek 3) (eC .non))) (bOf (eOp oLt (ePeek 5) (ePeek 3)))) (bAnd (bOf (eOp oNotN (ePeek 4) (eC .non))) (bOf (eOp oGt (ePeek 5) (ePeek 4)))))
  (sRet (eC (.bl false)))
  (sNil)))
theorem subody_ok {A : List Str} {L : List Rw} {s : Sg} {st : Sto} {x : D} {p5 : Sl} (ok : ∀ r ∈ L, RwOk A r) (ne : L ≠ []) (hl : L.length ≤ 10000) :
    subody [.val (ltD L), .val x, .val (hrD A s.h), .val (oD s.lo), .val (oD s.hi), p5] st = some ((if sui L s then .nx [.val (ltD L), .val x, .val (hrD A s.h), .val (oD s.lo), .val (oD s.hi), .val (.int (ft s.h L))] else .rt (.bl false)), st) := by
  obtain ⟨h, lo, hi⟩ := s
  have e := firsttold_ok (A := A) (L := L) (h := h) (st := st) ok ne hl
  rcases lo with _ | l <;> rcases hi with _ | u
  · simp [g_lst, g_eqN, g_addI, g_addL, g_cat, g_subI, g_ixL, g_ixT, g_lt, g_le, g_gt, g_ge, fnM, env0, sSeq, sSet, sOwn, lDisp, aNil, eCall, eCallP, aCons, eVar, sFor, iSeq, loopM, noChk, asgN, asgT, setAll, sIf, bOf, bAnd, bOr, bNot, bYes, eOp, eL, lComp, compM, wipeE, oEqDD, ePeek, eqDD, flatD, eqGD, hitD, getG, eqFD, sApp, sFrz, frz, sRet, iKy, iKyT, keyT, keyV, eC, eBi, gLen, eIf, eTup, oIsN, oNotN, isNonD, dComp, dcM, putKD, putV, dCompT, dcMT, putKDT, putVT, eD, eDT, iEnm, enumD, eOr, eAnd, eNot, oEqLD, eqLD, oInLD, sDrop, sPar, Kd.run, eFld, fldD, eGetOT, eInOT, sPutT, sOwnT, sFrzT, frzT, sUnp, atI, ixN, eNeg, eVals, eMake, mapO, sNil, lT0, sPut, gMax, gMin, eMeth, ofS_inj, e, sui, oD]
  · by_cases q : ft h L ≤ u
    · have q2 : ¬ u < ft h L := by omega
      simp [g_lst, g_eqN, g_addI, g_addL, g_cat, g_subI, g_ixL, g_ixT, g_lt, g_le, g_gt, g_ge, fnM, env0, sSeq, sSet, sOwn, lDisp, aNil, eCall, eCallP, aCons, eVar, sFor, iSeq, loopM, noChk, asgN, asgT, setAll, sIf, bOf, bAnd, bOr, bNot, bYes, eOp, eL, lComp, compM, wipeE, oEqDD, ePeek, eqDD, flatD, eqGD, hitD, getG, eqFD, sApp, sFrz, frz, sRet, iKy, iKyT, keyT, keyV, eC, eBi, gLen, eIf, eTup, oIsN, oNotN, isNonD, dComp, dcM, putKD, putV, dCompT, dcMT, putKDT, putVT, eD, eDT, iEnm, enumD, eOr, eAnd, eNot, oEqLD, eqLD, oInLD, sDrop, sPar, Kd.run, eFld, fldD, eGetOT, eInOT, sPutT, sOwnT, sFrzT, frzT, sUnp, atI, ixN, eNeg, eVals, eMake, mapO, sNil, lT0, sPut, gMax, gMin, eMeth, ofS_inj, e, sui, oD, q, q2]
    · have q2 : u < ft h L := by omega
      simp [g_lst, g_eqN, g_addI, g_addL, g_cat, g_subI, g_ixL, g_ixT, g_lt, g_le, g_gt, g_ge, fnM, env0, sSeq, sSet, sOwn, lDisp, aNil, eCall, eCallP, aCons, eVar, sFor, iSeq, loopM, noChk, asgN, asgT, setAll, sIf, bOf, bAnd, bOr, bNot, bYes, eOp, eL, lComp, compM, wipeE, oEqDD, ePeek, eqDD, flatD, eqGD, hitD, getG, eqFD, sApp, sFrz, frz, sRet, iKy, iKyT, keyT, keyV, eC, eBi, gLen, eIf, eTup, oIsN, oNotN, isNonD, dComp, dcM, putKD, putV, dCompT, dcMT, putKDT, putVT, eD, eDT, iEnm, enumD, eOr, eAnd, eNot, oEqLD, eqLD, oInLD, sDrop, sPar, Kd.run, eFld, fldD, eGetOT, eInOT, sPutT, sOwnT, sFrzT, frzT, sUnp, atI, ixN, eNeg, eVals, eMake, mapO, sNil, lT0, sPut, gMax, gMin, eMeth, ofS_inj, e, sui, oD, q, q2]
  · by_cases q : l ≤ ft h L
    · have q2 : ¬ ft h L < l := by omega
      simp [g_lst, g_eqN, g_addI, g_addL, g_cat, g_subI, g_ixL, g_ixT, g_lt, g_le, g_gt, g_ge, fnM, env0, sSeq, sSet, sOwn, lDisp, aNil, eCall, eCallP, aCons, eVar, sFor, iSeq, loopM, noChk, asgN, asgT, setAll, sIf, bOf, bAnd, bOr, bNot, bYes, eOp, eL, lComp, compM, wipeE, oEqDD, ePeek, eqDD, flatD, eqGD, hitD, getG, eqFD, sApp, sFrz, frz, sRet, iKy, iKyT, keyT, keyV, eC, eBi, gLen, eIf, eTup, oIsN, oNotN, isNonD, dComp, dcM, putKD, putV, dCompT, dcMT, putKDT, putVT, eD, eDT, iEnm, enumD, eOr, eAnd, eNot, oEqLD, eqLD, oInLD, sDrop, sPar, Kd.run, eFld, fldD, eGetOT, eInOT, sPutT, sOwnT, sFrzT, frzT, sUnp, atI, ixN, eNeg, eVals, eMake, mapO, sNil, lT0, sPut, gMax, gMin, eMeth, ofS_inj, e, sui, oD, q, q2]
    · have q2 : ft h L < l := by omega
      simp [g_lst, g_eqN, g_addI, g_addL, g_cat, g_subI, g_ixL, g_ixT, g_lt, g_le, g_gt, g_ge, fnM, env0, sSeq, sSet, sOwn, lDisp, aNil, eCall, eCallP, aCons, eVar, sFor, iSeq, loopM, noChk, asgN, asgT, setAll, sIf, bOf, bAnd, bOr, bNot, bYes, eOp, eL, lComp, compM, wipeE, oEqDD, ePeek, eqDD, flatD, eqGD, hitD, getG, eqFD, sApp, sFrz, frz, sRet, iKy, iKyT, keyT, keyV, eC, eBi, gLen, eIf, eTup, oIsN, oNotN, isNonD, dComp, dcM, putKD, putV, dCompT, dcMT, putKDT, putVT, eD, eDT, iEnm, enumD, eOr, eAnd, eNot, oEqLD, eqLD, oInLD, sDrop, sPar, Kd.run, eFld, fldD, eGetOT, eInOT, sPutT, sOwnT, sFrzT, frzT, sUnp, atI, ixN, eNeg, eVals, eMake, mapO, sNil, lT0, sPut, gMax, gMin, eMeth, ofS_inj, e, sui, oD, q, q2]
  · by_cases q : l ≤ ft h L
    · have q2 : ¬ ft h L < l := by omega
      by_cases q3 : ft h L ≤ u
      · have q4 : ¬ u < ft h L := by omega
        simp [g_lst, g_eqN, g_addI, g_addL, g_cat, g_subI, g_ixL, g_ixT, g_lt, g_le, g_gt, g_ge, fnM, env0, sSeq, sSet, sOwn, lDisp, aNil, eCall, eCallP, aCons, eVar, sFor, iSeq, loopM, noChk, asgN, asgT, setAll, sIf, bOf, bAnd, bOr, bNot, bYes, eOp, eL, lComp, compM, wipeE, oEqDD, ePeek, eqDD, flatD, eqGD, hitD, getG, eqFD, sApp, sFrz, frz, sRet, iKy, iKyT, keyT, keyV, eC, eBi, gLen, eIf, eTup, oIsN, oNotN, isNonD, dComp, dcM, putKD, putV, dCompT, dcMT, putKDT, putVT, eD, eDT, iEnm, enumD, eOr, eAnd, eNot, oEqLD, eqLD, oInLD, sDrop, sPar, Kd.run, eFld, fldD, eGetOT, eInOT, sPutT, sOwnT, sFrzT, frzT, sUnp, atI, ixN, eNeg, eVals, eMake, mapO, sNil, lT0, sPut, gMax, gMin, eMeth, ofS_inj, e, sui, oD, q, q2, q3, q4]
      · have q4 : u < ft h L := by omega
        simp [g_lst, g_eqN, g_addI, g_addL, g_cat, g_subI, g_ixL, g_ixT, g_lt, g_le, g_gt, g_ge, fnM, env0, sSeq, sSet, sOwn, lDisp, aNil, eCall, eCallP, aCons, eVar, sFor, iSeq, loopM, noChk, asgN, asgT, setAll, sIf, bOf, bAnd, bOr, bNot, bYes, eOp, eL, lComp, compM, wipeE, oEqDD, ePeek, eqDD, flatD, eqGD, hitD, getG, eqFD, sApp, sFrz, frz, sRet, iKy, iKyT, keyT, keyV, eC, eBi, gLen, eIf, eTup, oIsN, oNotN, isNonD, dComp, dcM, putKD, putV, dCompT, dcMT, putKDT, putVT, eD, eDT, iEnm, enumD, eOr, eAnd, eNot, oEqLD, eqLD, oInLD, sDrop, sPar, Kd.run, eFld, fldD, eGetOT, eInOT, sPutT, sOwnT, sFrzT, frzT, sUnp, atI, ixN, eNeg, eVals, eMake, mapO, sNil, lT0, sPut, gMax, gMin, eMeth, ofS_inj, e, sui, oD, q, q2, q3, q4]
    · have q2 : ft h L < l := by omega
      simp [g_lst, g_eqN, g_addI, g_addL, g_cat, g_subI, g_ixL, g_ixT, g_lt, g_le, g_gt, g_ge, fnM, env0, sSeq, sSet, sOwn, lDisp, aNil, eCall, eCallP, aCons, eVar, sFor, iSeq, loopM, noChk, asgN, asgT, setAll, sIf, bOf, bAnd, bOr, bNot, bYes, eOp, eL, lComp, compM, wipeE, oEqDD, ePeek, eqDD, flatD, eqGD, hitD, getG, eqFD, sApp, sFrz, frz, sRet, iKy, iKyT, keyT, keyV, eC, eBi, gLen, eIf, eTup, oIsN, oNotN, isNonD, dComp, dcM, putKD, putV, dCompT, dcMT, putKDT, putVT, eD, eDT, iEnm, enumD, eOr, eAnd, eNot, oEqLD, eqLD, oInLD, sDrop, sPar, Kd.run, eFld, fldD, eGetOT, eInOT, sPutT, sOwnT, sFrzT, frzT, sUnp, atI, ixN, eNeg, eVals, eMake, mapO, sNil, lT0, sPut, gMax, gMin, eMeth, ofS_inj, e, sui, oD, q, q2]
theorem suloop_ok {A : List Str} {L : List Rw} {st : Sto} {x : D} (ok : ∀ r ∈ L, RwOk A r) (ne : L ≠ []) (hl : L.length ≤ 10000) : ∀ (R : List Sg) (p2 p3 p4 p5 : Sl),
    Ok (loopM noChk (asgT [2, 3, 4]) subody (R.map (sgD A)) [.val (ltD L), .val x, p2, p3, p4, p5] st) fun o s => s = st ∧ if R.all (sui L) then ∃ env, o = .nx env else o = .rt (.bl false)
  | [], p2, p3, p4, p5 => z_lpN rfl ⟨rfl, _, rfl⟩
  | s :: R, p2, p3, p4, p5 => by
    refine z_lpC rfl rfl ?_
    refine ⟨_, st, subody_ok ok ne hl, ?_⟩
    rw [List.all_cons]
    cases h : sui L s with
    | true =>
      rw [if_pos rfl, Bool.true_and]
      exact suloop_ok ok ne hl R _ _ _ _
    | false =>
      rw [if_neg Bool.false_ne_true, Bool.false_and]
      exact ⟨rfl, rfl⟩
theorem suits_ok {A : List Str} {L : List Rw} {R : List Sg} {st : Sto} (ok : ∀ r ∈ L, RwOk A r) (ne : L ≠ []) (hl : L.length ≤ 10000) : m__law_suits [ltD L, rwD A R] st = some (.bl (R.all (sui L)), st) := by
  refine Ok.eq (z_fn rfl ?_)
  unfold b__law_suits
  bv_omega
  refine z_seqI ?_
  bv_omega
  refine ⟨_, .inl rfl, ?_⟩
  refine (suloop_ok ok ne hl R _ _ _ _).mono ?_
  rintro o s ⟨rfl, h⟩
  cases hq : R.all (sui L) with
  | true =>
    rw [hq, if_pos rfl] at h
    obtain ⟨env, rfl⟩ := h
    bv_omega
    exact ⟨rfl, rfl⟩
  | false =>
    rw [hq, if_neg Bool.false_ne_true] at h
    subst h
    exact ⟨rfl, rfl⟩
end K64

namespace K64
open PySem L2 LW
/-! ### the plain law: some rule fits just if no pair clashes -/
theorem rh_ge {h : Str → Int} {r : Rw} {z : Str} (hz : z ∈ r.1) : h z + r.2 z ≤ rh h r := by
  have e := maxL_some (l := r.1.map fun z => h z + r.2 z) (by intro q; rw [List.map_eq_nil_iff] at q; rw [q] at hz; cases hz)
  exact (maxL_ok e).2 _ (List.mem_map.mpr ⟨z, hz, rfl⟩)
theorem rh_mem {h : Str → Int} {r : Rw} (ne : r.1 ≠ []) : ∃ z ∈ r.1, rh h r = h z + r.2 z := by
  have e := maxL_some (l := r.1.map fun z => h z + r.2 z) (by simpa using ne)
  obtain ⟨z, hz, q⟩ := List.mem_map.mp (maxL_ok e).1
  exact ⟨z, hz, q.symm⟩
theorem ft_le {h : Str → Int} {L : List Rw} {r : Rw} (hr : r ∈ L) : ft h L ≤ rh h r := by
  have e := minL_some (l := L.map (rh h)) (by intro q; rw [List.map_eq_nil_iff] at q; rw [q] at hr; cases hr)
  exact (minL_ok e).2 _ (List.mem_map.mpr ⟨r, hr, rfl⟩)
theorem ft_mem {h : Str → Int} {L : List Rw} (ne : L ≠ []) : ∃ r ∈ L, ft h L = rh h r := by
  have e := minL_some (l := L.map (rh h)) (by simpa using ne)
  obtain ⟨r, hr, q⟩ := List.mem_map.mp (minL_ok e).1
  exact ⟨r, hr, q.symm⟩
theorem wi_iff {r q : Rw} : wi r q = true ↔ ∀ z ∈ r.1, z ∈ q.1 ∧ r.2 z ≤ q.2 z := by
  unfold wi
  rw [List.all_eq_true]
  simp
theorem wi_refl (r : Rw) : wi r r = true := wi_iff.mpr fun _ h => ⟨h, Int.le_refl _⟩
theorem wi_trans {a b c : Rw} (h : wi a b = true) (h' : wi b c = true) : wi a c = true := wi_iff.mpr fun z hz => by
  obtain ⟨h1, h2⟩ := wi_iff.mp h z hz
  obtain ⟨h3, h4⟩ := wi_iff.mp h' z h1
  exact ⟨h3, Int.le_trans h2 h4⟩
theorem wi_rh {h : Str → Int} {r q : Rw} (w : wi r q = true) (ne : r.1 ≠ []) : rh h r ≤ rh h q := by
  obtain ⟨z, hz, e⟩ := rh_mem (h := h) ne
  obtain ⟨h1, h2⟩ := wi_iff.mp w z hz
  have := rh_ge (h := h) h1
  omega
/-- the rows within which no other one lies -/
def amin : List Rw → List Rw
  | [] => []
  | a :: B => if (amin B).any fun b => wi b a then amin B else a :: (amin B).filter fun b => !wi a b
theorem amin_sub : ∀ S : List Rw, (amin S).Sublist S
  | [] => List.Sublist.slnil
  | a :: B => by
    unfold amin
    split
    · exact (amin_sub B).cons a
    · exact (List.filter_sublist.trans (amin_sub B)).cons_cons a
theorem amin_anti : ∀ S : List Rw, (amin S).Pairwise fun a b => wi a b = false ∧ wi b a = false
  | [] => List.Pairwise.nil
  | a :: B => by
    unfold amin
    split
    · exact amin_anti B
    · rename_i h
      refine List.pairwise_cons.mpr ⟨fun b hb => ?_, (amin_anti B).filter _⟩
      obtain ⟨h1, h2⟩ := List.mem_filter.mp hb
      refine ⟨by simpa using h2, ?_⟩
      cases q : wi b a with
      | false => rfl
      | true => exact absurd (List.any_eq_true.mpr ⟨b, h1, q⟩) h
theorem amin_cov : ∀ (S : List Rw) (s : Rw), s ∈ S → ∃ l ∈ amin S, wi l s = true
  | [], s, h => by cases h
  | a :: B, s, h => by
    unfold amin
    split
    · rename_i q
      rcases List.mem_cons.mp h with rfl | h
      · obtain ⟨b, hb, q2⟩ := List.any_eq_true.mp q
        exact ⟨b, hb, q2⟩
      · exact amin_cov B s h
    · rename_i q
      rcases List.mem_cons.mp h with rfl | h
      · exact ⟨s, by simp, wi_refl s⟩
      · obtain ⟨l, hl, w⟩ := amin_cov B s h
        cases q2 : wi a l with
        | true => exact ⟨a, by simp, wi_trans q2 w⟩
        | false => exact ⟨l, List.mem_cons_of_mem _ (List.mem_filter.mpr ⟨hl, by rw [q2]; rfl⟩), w⟩
/-! all of them are found -/
theorem grow_old {F : List (List Rw)} {row : Rw} {L : List Rw} (h : L ∈ F) : L ∈ grow F row := List.mem_append.mpr (.inl h)
theorem fold_all : ∀ (l : List Rw) (F : List (List Rw)) (K M : List Rw), K ∈ F → M.Sublist l → (K ++ M).Pairwise (fun a b => wi a b = false ∧ wi b a = false) → K ++ M ∈ l.foldl grow F
  | [], F, K, M, hK, hM, _ => by
    rw [List.sublist_nil.mp hM, List.append_nil]
    exact hK
  | r :: l, F, K, M, hK, hM, hP => by
    cases hM with
    | cons _ h => exact fold_all l (grow F r) K M (grow_old hK) h hP
    | cons_cons _ h =>
      rename_i M'
      have e : K ++ r :: M' = (K ++ [r]) ++ M' := by simp
      rw [e] at hP ⊢
      refine fold_all l (grow F r) (K ++ [r]) M' ?_ h hP
      unfold grow
      refine List.mem_append.mpr (.inr (List.mem_map.mpr ⟨K, List.mem_filter.mpr ⟨hK, ?_⟩, rfl⟩))
      unfold cmpQ
      rw [List.all_eq_true]
      intro one ho
      have := (List.pairwise_append.mp (List.pairwise_append.mp hP).1).2.2 one ho r (by simp)
      rw [this.1, this.2]
      rfl
theorem fold_ne : ∀ (l : List Rw) (F : List (List Rw)), (∀ L ∈ F, L ≠ []) → ∃ F', l.foldl grow ([] :: F) = [] :: F' ∧ ∀ L ∈ F', L ≠ []
  | [], F, h => ⟨F, rfl, h⟩
  | r :: l, F, h => by
    have e : grow ([] :: F) r = [] :: (F ++ (([] :: F).filter fun L => cmpQ L r).map (· ++ [r])) := rfl
    rw [List.foldl_cons, e]
    refine fold_ne l _ fun L hL => ?_
    rcases List.mem_append.mp hL with q | q
    · exact h L q
    · obtain ⟨M, _, rfl⟩ := List.mem_map.mp q
      simp
theorem every_ne {x y : Str} {w : Nat} : ∀ L ∈ every x y w, L ≠ [] := by
  obtain ⟨F', e, h⟩ := fold_ne (lots x y w) [] (by simp)
  unfold every
  rw [e]
  exact h
theorem every_has {x y : Str} {w : Nat} {M : List Rw} (ne : M ≠ []) (hM : M.Sublist (lots x y w)) (hP : M.Pairwise fun a b => wi a b = false ∧ wi b a = false) : M ∈ every x y w := by
  have h := fold_all (lots x y w) [[]] [] M (by simp) hM hP
  rw [List.nil_append] at h
  obtain ⟨F', e, h2⟩ := fold_ne (lots x y w) [] (by simp)
  unfold every
  rw [e] at h ⊢
  rcases List.mem_cons.mp h with q | q
  · exact absurd q ne
  · exact q
theorem fold_sub : ∀ (l : List Rw) (F : List (List Rw)) (B : List Rw), (∀ r ∈ l, r ∈ B) → (∀ L ∈ F, ∀ r ∈ L, r ∈ B) → ∀ L ∈ l.foldl grow F, ∀ r ∈ L, r ∈ B
  | [], _, _, _, h => h
  | r :: l, F, B, hl, h => fold_sub l (grow F r) B (fun y hy => hl y (by simp [hy])) fun L hL => by
    rcases grow_mem hL with q | ⟨M, q, _, rfl⟩
    · exact h L q
    · intro y hy
      rcases List.mem_append.mp hy with z | z
      · exact h M q y z
      · rw [List.mem_singleton.mp z]
        exact hl r (by simp)
theorem every_sub {x y : Str} {w : Nat} : ∀ L ∈ every x y w, ∀ r ∈ L, r ∈ lots x y w := fun L hL =>
  fold_sub (lots x y w) [[]] _ (fun _ h => h) (by simp) L (List.mem_of_mem_drop hL)
/-! the rows -/
theorem lots_ok {x y : Str} {w : Nat} (nxy : x ≠ y) {r : Rw} (hr : r ∈ lots x y w) : RwOk [x, y] r ∧ ∀ z ∈ r.1, 0 ≤ r.2 z ∧ r.2 z ≤ w := by
  unfold lots at hr
  rcases List.mem_append.mp hr with q | q
  · rcases List.mem_append.mp q with q | q
    · obtain ⟨i, hi, rfl⟩ := List.mem_map.mp q
      have := List.mem_range.mp hi
      exact ⟨⟨by simp [r1], by simp [r1], by simp [r1], by show 1 ≤ 20; decide⟩, fun z _ => by show 0 ≤ (i : Int) ∧ (i : Int) ≤ w; omega⟩
    · obtain ⟨i, hi, rfl⟩ := List.mem_map.mp q
      have := List.mem_range.mp hi
      exact ⟨⟨by simp [r1], by simp [r1], by simp [r1], by show 1 ≤ 20; decide⟩, fun z _ => by show 0 ≤ (i : Int) ∧ (i : Int) ≤ w; omega⟩
  · obtain ⟨i, hi, q⟩ := List.mem_flatMap.mp q
    obtain ⟨j, hj, rfl⟩ := List.mem_map.mp q
    have h1 := List.mem_range.mp hi
    have h2 := List.mem_range.mp hj
    refine ⟨⟨by simp [r2], by simp [r2], by simp [r2, nxy], by show 2 ≤ 20; decide⟩, fun z _ => ?_⟩
    show 0 ≤ (if z = x then (i : Int) else (j : Int)) ∧ (if z = x then (i : Int) else (j : Int)) ≤ w
    split <;> omega
theorem lots_pick {x y : Str} {w : Nat} (nxy : x ≠ y) (t : Str → Int) (hx : 0 ≤ t x → t x ≤ w) (hy : 0 ≤ t y → t y ≤ w) (h : 0 ≤ t x ∨ 0 ≤ t y) : ∃ r ∈ lots x y w, (∀ z ∈ r.1, r.2 z = t z) ∧ ∀ z, z = x ∨ z = y → 0 ≤ t z → z ∈ r.1 := by
  by_cases p1 : 0 ≤ t x
  · by_cases p2 : 0 ≤ t y
    · refine ⟨r2 x y (t x).toNat (t y).toNat, ?_, fun z hz => ?_, fun z hz _ => by rcases hz with rfl | rfl <;> simp [r2]⟩
      · unfold lots
        refine List.mem_append.mpr (.inr (List.mem_flatMap.mpr ⟨(t x).toNat, List.mem_range.mpr (by have := hx p1; omega), List.mem_map.mpr ⟨(t y).toNat, List.mem_range.mpr (by have := hy p2; omega), rfl⟩⟩))
      · show (if z = x then ((t x).toNat : Int) else ((t y).toNat : Int)) = t z
        rcases List.mem_cons.mp hz with rfl | q
        · rw [if_pos rfl]; omega
        · rw [List.mem_singleton.mp q, if_neg (Ne.symm nxy)]; omega
    · refine ⟨r1 x (t x).toNat, ?_, fun z hz => ?_, fun z hz h0 => ?_⟩
      · unfold lots
        exact List.mem_append.mpr (.inl (List.mem_append.mpr (.inl (List.mem_map.mpr ⟨(t x).toNat, List.mem_range.mpr (by have := hx p1; omega), rfl⟩))))
      · rw [List.mem_singleton.mp hz]
        show ((t x).toNat : Int) = t x
        omega
      · rcases hz with rfl | rfl
        · simp [r1]
        · exact absurd h0 p2
  · have p2 : 0 ≤ t y := h.resolve_left p1
    refine ⟨r1 y (t y).toNat, ?_, fun z hz => ?_, fun z hz h0 => ?_⟩
    · unfold lots
      exact List.mem_append.mpr (.inl (List.mem_append.mpr (.inr (List.mem_map.mpr ⟨(t y).toNat, List.mem_range.mpr (by have := hy p2; omega), rfl⟩))))
    · rw [List.mem_singleton.mp hz]
      show ((t y).toNat : Int) = t y
      omega
    · rcases hz with rfl | rfl
      · exact absurd h0 p1
      · simp [r1]
theorem prs_nil {A : List Str} {m : Option Int} {R : List Sg} : (prs A m R).isEmpty = true ↔ ∀ a ∈ R, ∀ b ∈ R, ∃ z ∈ A, stnd m a b z = true := by
  rw [List.isEmpty_iff]
  constructor
  · intro h a ha b hb
    obtain ⟨i, hi⟩ := List.getElem?_of_mem ha
    obtain ⟨j, hj⟩ := List.getElem?_of_mem hb
    have i1 := (List.getElem?_eq_some_iff.mp hi).1
    have j1 := (List.getElem?_eq_some_iff.mp hj).1
    cases q : A.filter (stnd m a b) with
    | nil =>
      have : (i, j) ∈ prs A m R := by
        unfold prs
        refine List.mem_flatMap.mpr ⟨i, List.mem_range.mpr i1, List.mem_map.mpr ⟨j, List.mem_filter.mpr ⟨List.mem_range.mpr j1, ?_⟩, rfl⟩⟩
        unfold clashQ
        rw [hi, hj]
        dsimp only
        rw [q]
        rfl
      rw [h] at this
      cases this
    | cons z l =>
      have : z ∈ A.filter (stnd m a b) := by rw [q]; simp
      exact ⟨z, (List.mem_filter.mp this).1, (List.mem_filter.mp this).2⟩
  · intro h
    rw [List.eq_nil_iff_forall_not_mem]
    intro p hp
    unfold prs at hp
    obtain ⟨i, hi, hp⟩ := List.mem_flatMap.mp hp
    obtain ⟨j, hj, rfl⟩ := List.mem_map.mp hp
    have i1 := List.mem_range.mp hi
    have q := (List.mem_filter.mp hj).2
    have j1 := List.mem_range.mp (List.mem_filter.mp hj).1
    obtain ⟨z, hz, e⟩ := h R[i] (List.getElem_mem i1) R[j] (List.getElem_mem j1)
    unfold clashQ at q
    rw [List.getElem?_eq_getElem i1, List.getElem?_eq_getElem j1] at q
    dsimp only at q
    have : z ∈ A.filter (stnd m R[i] R[j]) := List.mem_filter.mpr ⟨hz, e⟩
    rw [List.isEmpty_iff.mp q] at this
    cases this
end K64

namespace K64
open PySem L2 LW
def tp (w : Int) (a : Sg) (z : Str) : Int := match a.hi with
  | none => w
  | some u => if u - a.h z < w then u - a.h z else w
def bt (b : Sg) (z : Str) : Int := match b.lo with
  | none => 0
  | some l => if l - b.h z > 0 then l - b.h z else 0
theorem tp_w (w : Int) (a : Sg) (z : Str) : tp w a z ≤ w := by
  unfold tp
  split
  · omega
  · split <;> omega
theorem tp_u {w : Int} {a : Sg} {z : Str} {u : Int} (h : a.hi = some u) : a.h z + tp w a z ≤ u := by
  unfold tp
  rw [h]
  dsimp only
  split <;> omega
theorem tp_ge {w i : Int} {a : Sg} {z : Str} (h1 : i ≤ w) (h2 : ∀ u, a.hi = some u → a.h z + i ≤ u) : i ≤ tp w a z := by
  unfold tp
  split
  · exact h1
  · rename_i u hu
    have := h2 u hu
    split <;> omega
theorem bt_0 (b : Sg) (z : Str) : 0 ≤ bt b z := by
  unfold bt
  split
  · omega
  · split <;> omega
theorem bt_l {b : Sg} {z : Str} {l : Int} (h : b.lo = some l) : l ≤ b.h z + bt b z := by
  unfold bt
  rw [h]
  dsimp only
  split <;> omega
theorem bt_le {i : Int} {b : Sg} {z : Str} (h1 : 0 ≤ i) (h2 : ∀ l, b.lo = some l → l ≤ b.h z + i) : bt b z ≤ i := by
  unfold bt
  split
  · exact h1
  · rename_i l hl
    have := h2 l hl
    split <;> omega
theorem stnd_iff {w : Int} {a b : Sg} {z : Str} : stnd (some w) a b z = true ↔ bt b z ≤ tp w a z := by
  have e1 : top (some w) a z = some (tp w a z) := by
    unfold top tp
    rfl
  have e2 : bot (some w) b z = some (bt b z) := by
    unfold bot bt
    rfl
  unfold stnd
  rw [e1, e2]
  exact decide_eq_true_iff
theorem sui_iff {L : List Rw} {s : Sg} : sui L s = true ↔ (∀ l, s.lo = some l → l ≤ ft s.h L) ∧ ∀ u, s.hi = some u → ft s.h L ≤ u := by
  unfold sui
  rw [Bool.and_eq_true]
  constructor
  · rintro ⟨h1, h2⟩
    refine ⟨fun l hl => ?_, fun u hu => ?_⟩
    · rw [hl] at h1
      exact of_decide_eq_true h1
    · rw [hu] at h2
      exact of_decide_eq_true h2
  · rintro ⟨h1, h2⟩
    constructor
    · cases hl : s.lo with
      | none => rfl
      | some l => exact decide_eq_true (h1 l hl)
    · cases hu : s.hi with
      | none => rfl
      | some u => exact decide_eq_true (h2 u hu)
theorem good_iff {x y : Str} {w : Nat} {R : List Sg} (nxy : x ≠ y) : ((every x y w).any fun L => R.all (sui L)) = (prs [x, y] (some (w : Int)) R).isEmpty := by
  rw [Bool.eq_iff_iff, prs_nil, List.any_eq_true]
  constructor
  · rintro ⟨L, hL, hs⟩ a ha b hb
    have hs := fun s hs' => sui_iff.mp (List.all_eq_true.mp hs s hs')
    have ne := every_ne L hL
    obtain ⟨r, hr, er⟩ := ft_mem (h := a.h) ne
    have hlot := lots_ok nxy (every_sub L hL r hr)
    have h1 := ft_le (h := b.h) hr
    obtain ⟨z, hz, ez⟩ := rh_mem (h := b.h) hlot.1.ne
    have h2 := rh_ge (h := a.h) hz
    have h3 := hlot.2 z hz
    refine ⟨z, hlot.1.sub z hz, stnd_iff.mpr (Int.le_trans (bt_le h3.1 fun l hl => ?_) (tp_ge h3.2 fun u hu => ?_))⟩
    · have := (hs b hb).1 l hl
      omega
    · have := (hs a ha).2 u hu
      omega
  · intro hc
    have hc : ∀ a ∈ R, ∀ b ∈ R, ∃ z, (z = x ∨ z = y) ∧ bt b z ≤ tp w a z := fun a ha b hb => by
      obtain ⟨z, hz, e⟩ := hc a ha b hb
      exact ⟨z, by simpa using hz, stnd_iff.mp e⟩
    let p : Rw → Bool := fun r => R.all fun b => match b.lo with
      | none => true
      | some l => decide (l ≤ rh b.h r)
    have hp : ∀ r, p r = true ↔ ∀ b ∈ R, ∀ l, b.lo = some l → l ≤ rh b.h r := fun r => by
      show (R.all _) = true ↔ _
      rw [List.all_eq_true]
      refine ⟨fun h b hb l hl => ?_, fun h b hb => ?_⟩
      · have := h b hb
        rw [hl] at this
        exact of_decide_eq_true this
      · cases hl : b.lo with
        | none => rfl
        | some l => exact decide_eq_true (h b hb l hl)
    have key : ∀ a ∈ R, ∃ r ∈ (lots x y w).filter p, ∀ u, a.hi = some u → rh a.h r ≤ u := fun a ha => by
      obtain ⟨z0, hz0, h0⟩ := hc a ha a ha
      have hb0 := bt_0 a z0
      obtain ⟨r, hr, h1, h2⟩ := lots_pick (w := w) nxy (tp w a) (fun _ => tp_w _ _ _) (fun _ => tp_w _ _ _) (by
        rcases hz0 with rfl | rfl
        · exact .inl (by omega)
        · exact .inr (by omega))
      refine ⟨r, List.mem_filter.mpr ⟨hr, (hp r).mpr fun b hb l hl => ?_⟩, fun u hu => ?_⟩
      · obtain ⟨z, hz, hle⟩ := hc a ha b hb
        have hb1 := bt_0 b z
        have zr := h2 z hz (by omega)
        have h3 := rh_ge (h := b.h) zr
        have h4 := bt_l (z := z) hl
        rw [h1 z zr] at h3
        omega
      · obtain ⟨z, hz, ez⟩ := rh_mem (h := a.h) (lots_ok nxy hr).1.ne
        have := tp_u (w := w) (z := z) hu
        rw [h1 z hz] at ez
        omega
    have hne : ∃ r, r ∈ (lots x y w).filter p := by
      cases hR : R with
      | nil =>
        obtain ⟨r, hr, _, _⟩ := lots_pick (w := w) nxy (fun _ => 0) (fun _ => by omega) (fun _ => by omega) (.inl (by omega))
        exact ⟨r, List.mem_filter.mpr ⟨hr, (hp r).mpr (by rw [hR]; simp)⟩⟩
      | cons a R' =>
        obtain ⟨r, hr, _⟩ := key a (by rw [hR]; simp)
        exact ⟨r, hr⟩
    obtain ⟨r0, hr0⟩ := hne
    obtain ⟨l0, hl0, _⟩ := amin_cov _ r0 hr0
    have sub := (amin_sub ((lots x y w).filter p))
    refine ⟨amin ((lots x y w).filter p), every_has (fun q => by rw [q] at hl0; cases hl0) (sub.trans List.filter_sublist) (amin_anti _), List.all_eq_true.mpr fun b hb => sui_iff.mpr ⟨fun l hl => ?_, fun u hu => ?_⟩⟩
    · obtain ⟨r, hr, e⟩ := ft_mem (h := b.h) (L := amin ((lots x y w).filter p)) (fun q => by rw [q] at hl0; cases hl0)
      have := (hp r).mp (List.mem_filter.mp (sub.subset hr)).2 b hb l hl
      omega
    · obtain ⟨r, hr, h1⟩ := key b hb
      obtain ⟨q, hq, hw⟩ := amin_cov _ r hr
      have h2 := ft_le (h := b.h) hq
      have h3 := wi_rh (h := b.h) hw (lots_ok nxy (List.mem_filter.mp (sub.subset hq)).1).1.ne
      have := h1 u hu
      omega
end K64

namespace K64
open PySem L2 LW
local macro_rules | `(tactic| bv_omega) => `(tactic| (repeat (first | with_reducible first | refine z_var (by with_unfolding_all rfl) ?_ | refine z_pk (by with_unfolding_all rfl) ?_ | refine z_pkO (by with_unfolding_all rfl) ?_ | refine z_retO (by with_unfolding_all rfl) ?_ | refine z_dictO (by with_unfolding_all rfl) ?_ | refine z_c ?_ | refine z_op ?_ | refine z_nil ?_ | refine z_cons ?_ | refine z_tup ?_ | refine z_lst ?_ | refine z_L ?_ | refine z_bi ?_ | refine z_call ?_ | refine z_meth ?_ | refine z_prop ?_ | refine z_fld ?_ | refine z_make ?_ | refine z_not ?_ | refine z_neg ?_ | refine z_bits ?_ | refine t_of ?_ | refine t_not ?_ | refine z_slN ?_ | refine z_oN ?_ | refine z_oS ?_ | refine z_snil ?_ | refine z_seq ?_ | refine z_set ?_ | refine z_own ?_ | refine z_ret ?_ | refine z_retC ?_ | refine z_drop ?_ | refine z_frz ?_ | refine z_app ?_ | refine z_appC ?_ | refine z_putC ?_ | refine z_for ?_ | refine z_lc ?_ | refine z_yes ?_ | refine z_kv ?_ | refine z_ko ?_ | refine z_par ?_ | refine z_unp ?_ | refine z_sfld ?_ | refine z_rg1 ?_ | refine z_rg2 ?_ | refine z_rg3 ?_ | refine z_and ?_ | refine z_or ?_ | refine z_eif ?_ | refine t_and ?_ | refine t_or ?_ | refine z_sif ?_ | refine u_add ?_ | refine u_sub ?_ | refine u_lt ?_ | refine u_le ?_ | refine u_gt ?_ | refine u_ge ?_ | refine u_isN ?_ | refine u_notN ?_ | refine z_par3 ?_ | refine z_dcl ?_ | refine z_cel ?_ | refine z_putDC ?_ | refine z_clrC ?_ | refine z_ownD ?_ | refine z_lenSN ?_ | refine z_D ?_ | refine z_dComp ?_ | refine z_lc2 ?_ | refine z_sn ?_ | refine z_makeC ?_ | refine z_methC ?_ | refine z_fldC ?_ | refine z_sfldC ?_ | refine z_xSet ?_ | refine z_methX ?_ | refine z_methCX ?_ | refine z_xIfE ?_ | refine z_xEL ?_ | refine z_xPar2 (by decide) ?_ | refine z_kD2 ?_ | refine z_par2 (by decide) ?_ | refine z_d0 ?_ | refine z_xBare ?_ | refine z_xFrz ?_ | refine z_xFor ?_ | refine z_sortIt ?_ | refine z_lenO ?_ | refine z_xSeq ?_ | refine z_xIf ?_ | refine z_xRaise ?_ | refine z_xL ?_ | refine z_xNil ?_ | refine z_xDrop ?_ | refine z_xRet ?_ | refine z_eCallX ?_ | refine z_sTry ?_ | refine z_DT ?_ | refine z_t0 ?_ | refine z_Td ?_ | refine z_ownT ?_ | refine z_putT ?_ | refine z_frzT ?_ | refine z_par3T ?_ | refine z_toT ?_ | refine z_join ?_ | refine z_sw3 ?_ | refine z_err ?_ | refine z_err0 ?_ | refine z_errB ?_ | refine z_zipL ?_ | refine z_aStar ?_ | refine z_rgV ?_ | refine z_irgV ?_ | (with_reducible refine u_mul ?_ ?_; next => first | exact mulC_r (by decide) (by decide) | exact mulC_l (by decide) (by decide) | exact mulC_r (by omega) (by omega) | exact mulC_l (by omega) (by omega)) | (with_reducible refine u_mod ?_ ?_; next => first | decide | assumption | omega) | (with_reducible refine u_div ?_ ?_; next => first | exact divC_s (by decide) (by decide) | exact divC_s (by omega) (by omega)))))
noncomputable abbrev lwb : SS := (sSeq (sPar 2 3 (.val (eL (eBi gSortS (aCons (eCall m__law_names [] (aCons (eVar 1) (aCons (eC (.int 2)) (aNil)))) (aNil))))) (.val (eCall m__law_draw [] (aCons (eVar 1) (aCons (eC (.int 3)) (aNil))))))
  (sSeq (sSet 4 (eCall m__law_seen [] (aCons (eVar 1) (aCons (eVar 2) (aCons (eVar 3) (aCons (eCall m__law_draw [] (aCons (eVar 1) (aCons (eC (.int 4)) (aNil)))) (aNil)))))))
  (sSeq (sPar 5 6 (.val (eCall m__law_copied [] (aCons (eVar 4) (aNil)))) (.val (eMake "Sights" m_Sights___init__ [] (aCons (eVar 2) (aCons (eVar 3) (aCons (eVar 4) (aNil)))))))
  (sSeq (sSet 7 (eL (lComp (iSeq (eCall m__law_every [] (aCons (eVar 2) (aCons (eVar 3) (aNil))))) (asgN 8) (bOf (eCall m__law_suits [] (aCons (eVar 8) (aCons (eVar 4) (aNil))))) (eVar 8) [8])))
  (sSeq (sIf (bOr (bOf (eOp oNe (eOp oEq (eCall m__law_pairs [] (aCons (eVar 2) (aCons (eVar 3) (aCons (eVar 4) (aNil))))) (eL (lDisp (aNil)))) (eOp oNeN (ePeek 7) (eL (lDisp (aNil)))))) (bNot (bOf (eCall m__law_judged_right [] (aCons (eVar 6) (aCons (eVar 2) (aCons (eVar 3) (aCons (eVar 4) (aNil)))))))))
  (sRet (eC (.bl false)))
  (sNil))
  (sSeq (sIf (bOr (bOf (eOp (oEqZ true) (ePeek 4) (ePeek 5))) (bOf (eOp (oEqZ true) (eMeth "Sights" "rows" m_Sights_rows [] (eVar 6) (aNil)) (ePeek 5))))
  (sRet (eC (.bl false)))
  (sNil))
  (sSeq (sSet 9 (eL (eBi gSortS (aCons (eCall m__law_names [] (aCons (eVar 1) (aCons (eOp oAdd (eC (.int 1)) (eCall m__law_draw [] (aCons (eVar 1) (aCons (eC (.int 4)) (aNil))))) (aNil)))) (aNil)))))
  (sSeq (sSet 3 (eCall m__law_one_of [] (aCons (eVar 1) (aCons (eL (lDisp (aCons (eC .non) (aCons (eC (.int 0)) (aCons (eC (.int 3)) (aCons (eC (.int 7)) (aCons (eOp oPow (eC (.int 10)) (eC (.int 11))) (aNil)))))))) (aNil)))))
  (sSeq (sSet 4 (eCall m__law_seen [] (aCons (eVar 1) (aCons (eVar 9) (aCons (eVar 3) (aCons (eOp oAdd (eC (.int 1)) (eCall m__law_draw [] (aCons (eVar 1) (aCons (eC (.int 5)) (aNil))))) (aNil)))))))
  (sIf (bNot (bOf (eCall m__law_judged_right [] (aCons (eMake "Sights" m_Sights___init__ [] (aCons (eVar 9) (aCons (eVar 3) (aCons (eVar 4) (aNil))))) (aCons (eVar 9) (aCons (eVar 3) (aCons (eVar 4) (aNil))))))))
  (sRet (eC (.bl false)))
  (sNil)))))))))))
noncomputable abbrev lwt : SS := (sSeq (sSet 10 (eL (lDisp (aCons (eTup (aCons (eD (lDd [(eC (.str "a"), eC (.int 0)), (eC (.str "b"), eC (.int 0))])) (aCons (eC (.int 2)) (aCons (eC (.int 2)) (aNil))))) (aCons (eTup (aCons (eD (lDd [(eC (.str "a"), eC (.int 0)), (eC (.str "b"), eC (.int 5))])) (aCons (eC (.int 3)) (aCons (eC (.int 3)) (aNil))))) (aCons (eTup (aCons (eD (lDd [(eC (.str "a"), eC (.int 1)), (eC (.str "b"), eC (.int 9))])) (aCons (eC (.int 2)) (aCons (eC (.int 2)) (aNil))))) (aNil)))))))
  (sSeq (sSet 11 (eL (lComp (iSeq (eTup (aCons (eC (.int 0)) (aCons (eC (.int 3)) (aCons (eC .non) (aNil)))))) (asgN 3) (bYes) (eCall m_clash [] (aCons (eMake "Sights" m_Sights___init__ [] (aCons (eL (lDisp (aCons (eC (.str "a")) (aCons (eC (.str "b")) (aNil))))) (aCons (eVar 3) (aCons (eVar 10) (aNil))))) (aNil))) [3])))
  (sSeq (sIf (bOr (bOf (eOp oIsN (eOp oIx (ePeek 11) (eC (.int 0))) (eC .non))) (bOr (bOf (eOp oNInTD (eOp oIx (ePeek 11) (eC (.int 1))) (eTup (aCons (eTup (aCons (eC (.int 2)) (aCons (eC (.int 0)) (aNil)))) (aCons (eTup (aCons (eC (.int 2)) (aCons (eC (.int 1)) (aNil)))) (aNil)))))) (bOf (eOp oNInTD (eOp oIx (ePeek 11) (eC (.int 2))) (eTup (aCons (eTup (aCons (eC (.int 2)) (aCons (eC (.int 0)) (aNil)))) (aCons (eTup (aCons (eC (.int 2)) (aCons (eC (.int 1)) (aNil)))) (aNil))))))))
  (sRet (eC (.bl false)))
  (sNil))
  (sSeq (sSet 12 (eL (lComp (iRg1 (aCons (eC (.int 12)) (aNil))) (asgN 13) (bYes) (eTup (aCons (eD (lDd [(eC (.str "a"), eC (.int 0))])) (aCons (eOp oMod (ePeek 13) (eC (.int 3))) (aCons (eC (.int 3)) (aNil))))) [13])))
  (sSeq (sSet 9 (eL (lDisp (aCons (eMake "Sights" m_Sights___init__ [] (aCons (eL (lDisp (aCons (eC (.str "a")) (aNil)))) (aCons (eC (.int 5)) (aCons (eVar 12) (aNil))))) (aCons (eMake "Sights" m_Sights___init__ [] (aCons (eL (lDisp (aCons (eC (.str "a")) (aCons (eC (.str "b")) (aCons (eC (.str "c")) (aCons (eC (.str "d")) (aCons (eC (.str "e")) (aCons (eC (.str "f")) (aCons (eC (.str "g")) (aCons (eC (.str "h")) (aCons (eC (.str "i")) (aNil)))))))))))) (aCons (eC (.int 5)) (aCons (eL (lDisp (aNil))) (aNil))))) (aNil))))))
  (sSeq (sIf (bOf (eOp oNe (eL (lComp (iSeq (eVar 9)) (asgN 14) (bNot (bOf (eBi (gIsi CS) (aCons (ePeek 14) (aCons (eC (.cls "Sights")) (aNil)))))) (eC (.int 1)) [14])) (eL (lDisp (aNil)))))
  (sRet (eC (.bl false)))
  (sNil))
  (sRet (eAnd (eCall m_fits [] (aCons (eMake "Sights" m_Sights___init__ [] (aCons (eL (lDisp (aCons (eC (.str "a")) (aCons (eC (.str "b")) (aNil))))) (aCons (eC (.int 3)) (aCons (eL (eSl slL (ePeek 10) (oNone) (oSome (eC (.int 2))))) (aNil))))) (aNil))) (eOp oEq (eCall m_clash [] (aCons (eMake "Sights" m_Sights___init__ [] (aCons (eL (lDisp (aCons (eC (.str "a")) (aNil)))) (aCons (eC (.int 5)) (aCons (eL (lDisp (aCons (eTup (aCons (eD (lDd [(eC (.str "a"), eC (.int 0))])) (aCons (eC (.int 6)) (aCons (eC .non) (aNil))))) (aNil)))) (aNil))))) (aNil))) (eTup (aCons (eC (.int 0)) (aCons (eC (.int 0)) (aNil)))))))))))))

theorem lwt_ok {x0 x1 x2 x3 x4 x5 x6 x7 x8 x9 x10 x11 x12 x13 x14 : Sl} {s : Sto} : lwt [x0, x1, x2, x3, x4, x5, x6, x7, x8, x9, x10, x11, x12, x13, x14] s = some (.rt (.bl true), s) := by kernel_rfl
theorem lt_sort {A : List Str} (h : Nms A) : Lt (sortS A) where
  nm := fun z hz => h.nm z (perm_sortS.mem_iff.mp hz)
  nd := perm_sortS.nodup_iff.mpr h.nd
  so := pw_sortS
  lo := by rw [perm_sortS.length_eq]; exact h.lo
  hi := by rw [perm_sortS.length_eq]; have := h.hi; omega
theorem u_sortS {zs : List Str} {s : Sto} {Q : List D → Prop} (h : zs.length < 64) (q : Q ((sortS zs).map D.str)) : Od (gSortS [.lst (zs.map D.str)] s) Q := by
  refine u_now ?_ q
  unfold gSortS
  dsimp only
  rw [lstS_map]
  dsimp only
  rw [if_pos h]
theorem lwb_ok {n k : Nat} {st : Sto} {x0 p2 p3 p4 p5 p6 p7 p8 p9 p10 p11 p12 p13 p14 : Sl} (P : Pc k n st) (hn : n < 2 ^ 38) :
    Ok (lwb [x0, .val (.cell k), p2, p3, p4, p5, p6, p7, p8, p9, p10, p11, p12, p13, p14] st) fun o s => ∃ q2 q3 q4 q5 q6 q7 q8 q9, o = .nx [x0, .val (.cell k), q2, q3, q4, q5, q6, q7, q8, q9, p10, p11, p12, p13, p14] ∧ Keep k st s := by
  unfold lwb
  bv_omega
  refine namesK P (by omega) (m := 2) (by decide) (by decide) fun A0 s1 P1 K1 hA0 l0 => ?_
  bv_omega
  refine u_sortS (by omega) ?_
  have b := lt_sort hA0
  have lA : (sortS A0).length = 2 := by rw [perm_sortS.length_eq]; exact l0
  obtain ⟨x, y, eA⟩ : ∃ x y, sortS A0 = [x, y] := by
    match sortS A0, lA with
    | [x, y], _ => exact ⟨x, y, rfl⟩
  generalize sortS A0 = A at b lA eA ⊢
  bv_omega
  refine drawK P1 (by omega) (m := 3) (by decide) (by decide) fun r s2 P2 K2 r0 r1 => ?_
  bv_omega
  refine ⟨by decide, ?_⟩
  bv_omega
  refine drawK P2 (by omega) (m := 4) (by decide) (by decide) fun mn s3 P3 K3 m0 m1 => ?_
  bv_omega
  have hm : ∀ w, some r = some w → 0 ≤ w ∧ w < 2 ^ 90 := fun w e => by cases e; omega
  refine seenK (m := some r) b hm m0 (by omega) P3 (by omega) fun R s4 P4 K4 hR lR => ?_
  bv_omega
  have hm2 : ∀ w, some r = some w → 0 ≤ w := fun w e => (hm w e).1
  have l5 : R.length ≤ 5 := by omega
  refine Ok.use (lawcopy_ok (by omega)) ?_
  bv_omega
  refine Ok.use (init_R (m := some r) b hm2 hR (by omega)) ?_
  bv_omega
  refine ⟨by decide, ?_⟩
  bv_omega
  refine z_seqI ?_
  bv_omega
  obtain ⟨w, rfl⟩ : ∃ w : Nat, r = (w : Int) := ⟨r.toNat, by omega⟩
  have nxy : x ≠ y := by
    have := b.nd
    rw [eA] at this
    intro e
    rw [e] at this
    simp at this
  have hx : Nm x := b.nm x (by rw [eA]; simp)
  have hy : Nm y := b.nm y (by rw [eA]; simp)
  have ev : m__law_every [.lst (A.map D.str), .int w] s4 = some (.lst ((every x y w).map ltD), s4) := by
    rw [eA]
    exact every_ok hx hy nxy (by omega)
  refine Ok.use ev ?_
  have hev : ∀ L ∈ every x y w, (∀ r ∈ L, RwOk A r) ∧ L ≠ [] := fun L hL => ⟨fun r hr => by rw [eA]; exact (lots_ok nxy (every_sub L hL r hr)).1, every_ne L hL⟩
  have lots15 := lots_len hx hy nxy (w := w) (by omega)
  have fl := fold_len (lots x y w) [[]]
  have p2 : 2 ^ (lots x y w).length ≤ 2 ^ 15 := Nat.pow_le_pow_right (by decide) lots15
  rw [List.length_singleton, Nat.mul_one] at fl
  have evl : (every x y w).length ≤ 2 ^ 15 := by
    unfold every
    rw [List.length_drop]
    omega
  have fok := fold_ok (n := 0) (lots x y w) [[]] (lots_RN hx hy nxy (by omega)) (fun L hL => by
    rw [List.mem_singleton.mp hL]
    exact ⟨by simp, by simp⟩)
  have hevl : ∀ L ∈ every x y w, L.length ≤ 10000 := fun L hL => by
    have := (fok L (List.mem_of_mem_drop hL)).2
    omega
  refine ⟨_, .inl rfl, by rw [List.length_map]; omega, ?_⟩
  refine Ok.use (comp_zf ltD ltD (fun L => R.all (sui L)) rfl (every x y w) fun L hL => ?_) ?_
  · refine ⟨_, rfl, ?_, fun _ => ?_⟩
    · bv_omega
      refine Ok.use (suits_ok (hev L hL).1 (hev L hL).2 (hevl L hL)) ?_
      exact ⟨rfl, rfl⟩
    · bv_omega
      exact ⟨rfl, rfl⟩
  bv_omega
  refine Ok.use (lawpairs_ok (m := some (w : Int)) b.nm (by omega) (by omega)) ?_
  bv_omega
  refine ⟨by decide, ?_⟩
  refine u_now nilP_eq ?_
  bv_omega
  refine ⟨by decide, ?_⟩
  refine u_now g_neN ?_
  have gi := good_iff (w := w) (R := R) nxy
  rw [← eA] at gi
  have ge : (!(((every x y w).filter fun L => R.all (sui L)).map ltD).isEmpty) = (prs A (some (w : Int)) R).isEmpty := by
    rw [← gi, List.isEmpty_map, Bool.eq_iff_iff, Bool.not_eq_true', ← Bool.not_eq_true, List.isEmpty_iff, List.filter_eq_nil_iff, List.any_eq_true]
    constructor
    · intro h
      exact Classical.byContradiction fun q => h fun L hL e => q ⟨L, hL, e⟩
    · rintro ⟨L, hL, e⟩ h
      exact h L hL e
  rw [ge]
  refine u_now (neB b hm2 hR l5 _) ?_
  refine b_f rfl ?_
  bv_omega
  refine (judged_ok b hm2 hR l5).mono ?_
  rintro d s5 ⟨rfl, ys, rfl⟩
  refine b_f rfl ?_
  bv_omega
  refine u_eqZ refZ_rw ?_
  refine b_f rfl ?_
  bv_omega
  refine ⟨rfl, (by show ¬ (("rows" : Str) ∈ (["lot", "limit", "seen"] : List Str)); decide), ?_⟩
  bv_omega
  refine Ok.use (rows_ok (by omega)) ?_
  bv_omega
  refine u_eqZ refZ_rw ?_
  refine b_f rfl ?_
  bv_omega
  have P4' : Pc k (n + 500 + 4 + 4 + 40000) (s4 ++ ys) := P4.app
  have K4' : Keep k s4 (s4 ++ ys) := Keep.app
  refine drawK P4' (by omega) (m := 4) (by decide) (by decide) fun r2 s6 P6 K6 q0 q1 => ?_
  bv_omega
  obtain ⟨m2, em2⟩ : ∃ m2 : Nat, 1 + r2 = (m2 : Int) := ⟨(1 + r2).toNat, by omega⟩
  rw [em2]
  refine namesK P6 (by omega) (m := m2) (by omega) (by omega) fun B0 s7 P7 K7 hB0 lB0 => ?_
  bv_omega
  refine u_sortS (by omega) ?_
  have c := lt_sort hB0
  generalize sortS B0 = B at c ⊢
  bv_omega
  refine u_pow (by decide +kernel) ?_
  bv_omega
  refine ⟨by simp, ?_⟩
  bv_omega
  refine oneK P7 (by omega) (by simp) (by simp) fun d s8 P8 K8 hd => ?_
  obtain ⟨mm, rfl, hmm⟩ : ∃ mm : Option Int, d = oD mm ∧ ∀ w, mm = some w → 0 ≤ w ∧ w < 2 ^ 90 := by
    rcases List.mem_cons.mp hd with q | q
    · exact ⟨none, q, fun w e => by cases e⟩
    rcases List.mem_cons.mp q with q | q
    · exact ⟨some 0, q, fun w e => by cases e; decide⟩
    rcases List.mem_cons.mp q with q | q
    · exact ⟨some 3, q, fun w e => by cases e; decide⟩
    rcases List.mem_cons.mp q with q | q
    · exact ⟨some 7, q, fun w e => by cases e; decide⟩
    · exact ⟨some (10 ^ Int.toNat 11), List.mem_singleton.mp q, fun w e => by cases e; decide⟩
  bv_omega
  refine drawK P8 (by omega) (m := 5) (by decide) (by decide) fun r5 s9 P9 K9 u0 u1 => ?_
  bv_omega
  refine seenK (m := mm) c hmm (by omega) (by omega) P9 (by omega) fun R2 s10 P10 K10 hR2 lR2 => ?_
  have hmm2 : ∀ w, mm = some w → 0 ≤ w := fun w e => (hmm w e).1
  bv_omega
  refine Ok.use (init_R (m := mm) c hmm2 hR2 (by omega)) ?_
  bv_omega
  refine (judged_ok c hmm2 hR2 (by omega)).mono ?_
  rintro d s11 ⟨rfl, zs, rfl⟩
  refine b_f rfl ?_
  bv_omega
  exact ⟨_, _, _, _, _, _, p8, _, rfl, K1.trans (K2.trans (K3.trans (K4.trans (K4'.trans (K6.trans (K7.trans (K8.trans (K9.trans (K10.trans Keep.app)))))))))⟩
end K64

namespace K64
open PySem L2 LW
local macro_rules | `(tactic| bv_omega) => `(tactic| (repeat (first | with_reducible first | refine z_var (by with_unfolding_all rfl) ?_ | refine z_pk (by with_unfolding_all rfl) ?_ | refine z_pkO (by with_unfolding_all rfl) ?_ | refine z_retO (by with_unfolding_all rfl) ?_ | refine z_dictO (by with_unfolding_all rfl) ?_ | refine z_c ?_ | refine z_op ?_ | refine z_nil ?_ | refine z_cons ?_ | refine z_tup ?_ | refine z_lst ?_ | refine z_L ?_ | refine z_bi ?_ | refine z_call ?_ | refine z_meth ?_ | refine z_prop ?_ | refine z_fld ?_ | refine z_make ?_ | refine z_not ?_ | refine z_neg ?_ | refine z_bits ?_ | refine t_of ?_ | refine t_not ?_ | refine z_slN ?_ | refine z_oN ?_ | refine z_oS ?_ | refine z_snil ?_ | refine z_seq ?_ | refine z_set ?_ | refine z_own ?_ | refine z_ret ?_ | refine z_retC ?_ | refine z_drop ?_ | refine z_frz ?_ | refine z_app ?_ | refine z_appC ?_ | refine z_putC ?_ | refine z_for ?_ | refine z_lc ?_ | refine z_yes ?_ | refine z_kv ?_ | refine z_ko ?_ | refine z_par ?_ | refine z_unp ?_ | refine z_sfld ?_ | refine z_rg1 ?_ | refine z_rg2 ?_ | refine z_rg3 ?_ | refine z_and ?_ | refine z_or ?_ | refine z_eif ?_ | refine t_and ?_ | refine t_or ?_ | refine z_sif ?_ | refine u_add ?_ | refine u_sub ?_ | refine u_lt ?_ | refine u_le ?_ | refine u_gt ?_ | refine u_ge ?_ | refine u_isN ?_ | refine u_notN ?_ | refine z_par3 ?_ | refine z_dcl ?_ | refine z_cel ?_ | refine z_putDC ?_ | refine z_clrC ?_ | refine z_ownD ?_ | refine z_lenSN ?_ | refine z_D ?_ | refine z_dComp ?_ | refine z_lc2 ?_ | refine z_sn ?_ | refine z_makeC ?_ | refine z_methC ?_ | refine z_fldC ?_ | refine z_sfldC ?_ | refine z_xSet ?_ | refine z_methX ?_ | refine z_methCX ?_ | refine z_xIfE ?_ | refine z_xEL ?_ | refine z_xPar2 (by decide) ?_ | refine z_kD2 ?_ | refine z_par2 (by decide) ?_ | refine z_d0 ?_ | refine z_xBare ?_ | refine z_xFrz ?_ | refine z_xFor ?_ | refine z_sortIt ?_ | refine z_lenO ?_ | refine z_xSeq ?_ | refine z_xIf ?_ | refine z_xRaise ?_ | refine z_xL ?_ | refine z_xNil ?_ | refine z_xDrop ?_ | refine z_xRet ?_ | refine z_eCallX ?_ | refine z_sTry ?_ | refine z_DT ?_ | refine z_t0 ?_ | refine z_Td ?_ | refine z_ownT ?_ | refine z_putT ?_ | refine z_frzT ?_ | refine z_par3T ?_ | refine z_toT ?_ | refine z_join ?_ | refine z_sw3 ?_ | refine z_err ?_ | refine z_err0 ?_ | refine z_errB ?_ | refine z_zipL ?_ | refine z_aStar ?_ | refine z_rgV ?_ | refine z_irgV ?_ | (with_reducible refine u_mul ?_ ?_; next => first | exact mulC_r (by decide) (by decide) | exact mulC_l (by decide) (by decide) | exact mulC_r (by omega) (by omega) | exact mulC_l (by omega) (by omega)) | (with_reducible refine u_mod ?_ ?_; next => first | decide | assumption | omega) | (with_reducible refine u_div ?_ ?_; next => first | exact divC_s (by decide) (by decide) | exact divC_s (by omega) (by omega)))))
theorem loop_ok {x0 p10 p11 p12 p13 p14 : Sl} : ∀ (ks : List Nat) (s : Sto) (p1 p2 p3 p4 p5 p6 p7 p8 p9 : Sl), (∀ k ∈ ks, Pc k 0 s) → ks.Pairwise (· ≠ ·) →
    Ok (loopM noChk (asgN 1) lwb (ks.map D.cell) [x0, p1, p2, p3, p4, p5, p6, p7, p8, p9, p10, p11, p12, p13, p14] s) fun o _ => ∃ p1 p2 p3 p4 p5 p6 p7 p8 p9, o = .nx [x0, p1, p2, p3, p4, p5, p6, p7, p8, p9, p10, p11, p12, p13, p14]
  | [], s, p1, p2, p3, p4, p5, p6, p7, p8, p9, _, _ => z_loopN rfl ⟨_, _, _, _, _, _, _, _, _, rfl⟩
  | k :: ks, s, p1, p2, p3, p4, p5, p6, p7, p8, p9, hP, hw => by
    obtain ⟨hw1, hw2⟩ := List.pairwise_cons.mp hw
    refine z_loopC rfl rfl ?_
    refine (lwb_ok (hP k (by simp)) (by decide)).mono ?_
    rintro o s' ⟨q2, q3, q4, q5, q6, q7, q8, q9, rfl, K⟩
    refine loop_ok ks s' _ _ _ _ _ _ _ _ _ (fun k' hk' => ?_) hw2
    obtain ⟨l, el, pl⟩ := hP k' (by simp [hk'])
    exact ⟨l, K k' l (fun z => hw1 k' hk' z.symm) el, pl⟩
theorem law_true (ns : List Int) (hl : ns.length ≤ 63) : ∃ st', m_law [.fro (ns.map D.int)] [] = some (.bl true, st') := by
  have H : Ok (m_law [.fro (ns.map D.int)] []) fun d _ => d = .bl true := by
    refine z_fn rfl ?_
    unfold b_law
    refine z_seq ?_
    refine z_for ?_
    refine z_seqI ?_
    bv_omega
    refine pursesK fun ks s hP hw => ?_
    refine ⟨_, .inl rfl, ?_⟩
    refine (loop_ok ks s _ _ _ _ _ _ _ _ _ hP hw).mono ?_
    rintro o s' ⟨p1, p2, p3, p4, p5, p6, p7, p8, p9, rfl⟩
    exact ⟨_, _, lwt_ok, rfl⟩
  obtain ⟨d, s, e, rfl⟩ := H
  exact ⟨s, e⟩
end K64

theorem PySem.Challenge.cw_leafwaits_k64_whole_fits_and_clashes_holds : PySem.Challenge.rw_leafwaits_k64_whole_fits_and_clashes.Holds := by
  exact K64.hmain K64.law_true
