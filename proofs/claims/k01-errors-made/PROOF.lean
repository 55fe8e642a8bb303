import PyProof.Rows.All
import Wide.All
import OpenK.AllK
import Wide.FinOn
import HandS.ForMost
import HandS.Exc
import HandS.Wide
import HandS.WideBits
import HandS.TupAny
import HandS.TupLe
import HandS.IsInst
import HandS.RaiseMore
import HandS.Property
import HandS.MakeKw
import HandS.Defaults
import HandS.SetFor
import HandS.Strs
import HandS.SortInts
import HandS.Style
import HandS.More
import HandS.Deep
import HandS.Text
import HandS.DeepEq
import HandS.DictEq
import HandS.DictComp
import HandS.ForExc
import HandS.TryMany
import HandS.ExcInit
import KE.KExcSuper
import KE.KSuper
import HandS.ExcField
import HandS.TupSets
import PyProof.StrLawsRepr
import KE.DataCmp
import HandS.Finally
import HandS.ListItems
import HandS.ExcOwn
import HandS.OwnEq
import HandS.SortOrd
import HandS.DictTup
import HandS.Head0
import HandS.Head1
import HandS.Head2
import HandS.HeadHook1
import HandS.HeadHook2
import HandS.HeadNt
import HandS.Conv
import KE.KDictDisplayH
import PyProof.ReprRoads
import HandS.StrMore
import HandS.Codes
import HandS.ExcValue
import HandS.ExcIs
import OpenK.KMore
import PySem.Challenge.RW_leafwaits_k01_errors_made
import KE.RegKIsAll
import KE.KStateDown
namespace PySem
namespace LeafX
open PySem.W PySem.Calls PyProof.Rows PySem.HandSPX
structure Ps where
  (p1 p2 p3 a1 a2 a3 a4 b1 b2 b3 b4 : Pos)
def iA (p : Ps) : Arguments := { posonlyargs := [], args := [{ arg := "self", annotation := none, pos := p.p1 }, { arg := "value", annotation := none, pos := p.p2 }], vararg := none, kwonlyargs := [], kw_defaults := [], kwarg := none, defaults := [.Constant .none 0 p.p3] }
def iB (p : Ps) : List Stmt := [.Expr (.Call (.Attribute (.Call (.Name "super" p.a1) [] [] p.a2) "__init__" p.a3) [] [] p.a4) p.a4, .Assign [.Attribute (.Name "self" p.b1) "value" p.b2] (.Name "value" p.b3) p.b4]
def iS : Scope := { kind := .function, names := [(PySem.Str.ofString "self", .local), (PySem.Str.ofString "value", .local), (PySem.Str.ofString "__class__", .free), (PySem.Str.ofString "super", .globalImplicit)], isGenerator := false, isCoroutine := false, more := [] }
end LeafX
end PySem
namespace LW
open PySem L2 PyProof.Rows
section
variable {K : PySem.W.Frag} {h : Heap} {mg : Str → Option Value} {x cn m qual : Str} {st : Stmt}
/-- a Bool that tells an equation -/
def eqB {α : Type} [DecidableEq α] (a b : α) : Bool := decide (a = b)
theorem eqB_ok {α : Type} [DecidableEq α] {a b : α} (h : eqB a b = true) : a = b := of_decide_eq_true h
theorem bsplit {a b : Bool} (h : (a && b) = true) : a = true ∧ b = true := Bool.and_eq_true_iff.mp h
end
end LW
namespace LW
open PySem PySem.W L2 PyProof.Rows
open PySem.LeafX PySem.HandSPX
/-- where __init__ of the class stands -/
def liA (K : Frag) (cn : Str) : Addr := He.ma K (He.ga K cn) "__init__"
abbrev LfV : Type := Option (Str × Str × Arguments × FuncBody × Scope × Addr × List Str × Addr)
def lfW (K : Frag) (cn : Str) : LfV := match K.lookup (liA K cn) with
  | some ⟨_, _, .func fd, _⟩ => some (fd.name, fd.qualname, fd.params, fd.body, fd.scope, fd.globals, fd.closure.map (·.1), fd.builtins)
  | _ => none
abbrev LfD : Type := Str × Str × Ps
def lfV (d : LfD) : LfV := some ("__init__", d.2.1, iA d.2.2, .stmts (iB d.2.2), iS, mainGlobals, ["__class__"], builtinsNs)
def lfCB (K : Frag) (C : Addr) : Bool := match K.lookup C with
  | some ⟨.type t, _, .cls cd, sl⟩ => (match cd.mro, sl.toList with
    | .ref C' :: bm, [_, _, _, _, some (.builtin n), _] => eqB C' C && (eqB t "type" && (eqB n "ValueError.__new__" && (eqB cd.hasDel false && (eqB cd.hasDict true && (refsVE bm && He.eqO (alongIn K "__init__" bm) (some (some (.builtin "ValueError.__init__"))))))))
    | _, _ => false)
  | _ => false
/-- what the function's object tells -/
def lfFB (file : Str) (K : Frag) (C fI : Addr) (qual : Str) : Bool := match K.lookup fI with
  | some ⟨_, _, .func fd, _⟩ => (match fd.closure, fd.defaults, fd.code with
    | [(_, cc)], .ref oT, .ref cda => codeIn K (.ref cda) qual && ((match K.lookup oT with
        | some ⟨_, _, .seq its _, _⟩ => eqB its.toList [Value.none]
        | _ => false) && ((match K.lookup cda with
        | some ⟨_, _, .fields vs, _⟩ => (match (vs[2]? : Option Value) with
          | some (Value.str f _) => file == f
          | _ => false)
        | _ => false) && (match K.lookup cc with
        | some ⟨_, _, .cell (some (.ref C')), _⟩ => eqB C' C
        | _ => false)))
    | _, _, _ => false)
  | _ => false
def lfB (file : Str) (K : Frag) (d : LfD) : Bool := lfCB K (He.ga K d.1) && (lfFB file K (He.ga K d.1) (liA K d.1) d.2.1 && (He.eqO (findIn K (.ref (He.ga K d.1)) "__setattr__") (some (some (.builtin "object.__setattr__"))) && (He.eqO (findIn K (.ref (He.ga K d.1)) "__getattribute__") (some (some (.builtin "BaseException.__getattribute__"))) &&
  (He.eqO (findIn K (.ref (He.ga K d.1)) "__getattr__") (some none) && (He.eqO (findIn K (.ref (He.ga K d.1)) "value") (some none) && (He.eqO (findIn K (.ref (He.ga K d.1)) "__init__") (some (some (.ref (liA K d.1)))) && (eqB (typeIn K (.ref (liA K d.1))) (some (.type "function")) && (keepIn K (.ref (He.ga K d.1)) &&
  (eqB (subIn K (.ref (He.ga K d.1)) (.type "BaseException")) (some true) && (eqB (subIn K (.ref (He.ga K d.1)) (.type "ValueError")) (some true) && (eqB (typeIn K (.ref (He.ga K d.1))) (some (.type "type")) && (He.eqO (nsIn K cStatics "thirdparty.any") (some none) && (eqB (mroIn K (He.ga K d.1) (.ref (He.ga K d.1))) (some true) && (hasDictIn K (He.ga K d.1) && eqB (d.2.2.a3.endLine) (d.2.2.a4.line)))))))))))))))
inductive Vt where
  | nil
  | node (b : Bool) (l r : Vt)
def Vt.has : Nat → Vt → Nat → Bool
  | 0, _, _ => false
  | _ + 1, .nil, _ => false
  | f + 1, .node b l r, n => match Nat.ble n 1 with
    | true => b
    | false => match Nat.beq (n % 2) 0 with
      | true => Vt.has f l (n / 2)
      | false => Vt.has f r (n / 2)
def Vt.put : Nat → Vt → Nat → Vt
  | 0, v, _ => v
  | f + 1, .nil, n => match Nat.ble n 1 with
    | true => .node true .nil .nil
    | false => match Nat.beq (n % 2) 0 with
      | true => .node false (Vt.put f .nil (n / 2)) .nil
      | false => .node false .nil (Vt.put f .nil (n / 2))
  | f + 1, .node b l r, n => match Nat.ble n 1 with
    | true => .node true l r
    | false => match Nat.beq (n % 2) 0 with
      | true => .node b (Vt.put f l (n / 2)) r
      | false => .node b l (Vt.put f r (n / 2))
def ddp : List Nat → Vt → List Nat
  | [], _ => []
  | a :: r, v => match Vt.has 40 v (a + 1) with
    | true => ddp r v
    | false => a :: ddp r (Vt.put 40 v (a + 1))
def asV (g : Addr → Option Obj) : Nat → List Addr
  | 0 => [mainGlobals, cStatics]
  | n + 1 => ddp (asV g n ++ (asV g n).flatMap fun a => match g a with
    | some o => He.refsD o
    | none => []) .nil
abbrev AlC : Type := He.AlD × Bool × List LfV
def obsC (n : Nat) (fa : List He.Fa) (fn : List He.DefD) (ln : List LfD) (ex : Frag → Bool) (g : Addr → Option Obj) : AlC := (He.obsD fa fn (He.frG g (asV g n)), ex (He.frG g (asV g n)), ln.map fun d => lfW (He.frG g (asV g n)) d.1)
/-- what the end leans on -/
structure SaysC (fa : List He.Fa) (fn : List He.DefD) (ln : List LfD) (ex : Frag → Bool) (K : Frag) : Prop where
  d : He.SaysD fa fn K
  ex : ex K = true
  l : (ln.map fun d => lfW K d.1) = ln.map lfV
def hookC (n : Nat) (fa : List He.Fa) (fn : List He.DefD) (ln : List LfD) (ex : Frag → Bool) : Hook where
  α := AlC
  obs := fun s => obsC n fa fn ln ex s.heap.get?
  val := fun _ => (He.valD fn, true, ln.map lfV)
  says := fun _ h => ∃ K : Frag, K.In h ∧ SaysC fa fn ln ex K
  of := fun _ _ e => ⟨_, He.frG_in, congrArg (fun z : AlC => z.1) e, congrArg (fun z : AlC => z.2.1) e, congrArg (fun z : AlC => z.2.2) e⟩
  keeps := fun _ _ _ ⟨K, hK, c⟩ k => ⟨K, Frag.In.keeps hK k, c⟩
theorem obsC_eq {n : Nat} {fa : List He.Fa} {fn : List He.DefD} {ln : List LfD} {ex : Frag → Bool} {g : Addr → Option Obj} {s : Shared} (h : ∀ a, g a = s.heap.get? a) : obsC n fa fn ln ex g = (hookC n fa fn ln ex).obs s := by
  have e : g = s.heap.get? := funext h
  rw [e] <;> rfl
/-- the positions of an own error's __init__ -/
def psOf (st : Stmt) : Ps := match (defArgs st).args, (defArgs st).defaults, defBody st with
  | [a1, a2], [.Constant _ _ p3], [.Expr (.Call (.Attribute (.Call (.Name _ x1) [] [] x2) _ x3) [] [] x4) _, .Assign [.Attribute (.Name _ b1) _ b2] (.Name _ b3) b4] => ⟨a1.pos, a2.pos, p3, x1, x2, x3, x4, b1, b2, b3, b4⟩
  | _, _, _ => ⟨default, default, default, default, default, default, default, default, default, default, default⟩
def andL : List Bool → Bool
  | [] => true
  | b :: r => b && andL r
end LW
namespace LW
open PySem L2 PyProof.Rows
/-- which class lies below which -/
def xsub (n m : Str) : Bool := decide (n = m) || decide (m = ("LeafError" : Str))
def exB (K : PySem.W.Frag) (cn : Str) : Bool := He.eqO (PySem.W.findIn K (.ref (He.ga K cn)) "__getattribute__") (some (some (.builtin "BaseException.__getattribute__"))) && (He.eqO (PySem.W.findIn K (.ref (He.ga K cn)) "__getattr__") (some none) &&
  (eqB (PySem.W.subIn K (.ref (He.ga K cn)) (.type "BaseException")) (some true) && (PySem.W.hasDictIn K (He.ga K cn) && (He.eqO (PySem.W.findIn K (.ref (He.ga K cn)) "__class__") (some (some (.builtin "object.__class__"))) &&
  (He.eqO (PySem.W.specialIn K (.builtin "object.__class__") "__get__") (some (some (.builtin "getset_descriptor.__get__"))) && (eqB (PySem.W.takesIn K (.builtin "object.__class__")) (some true) && eqB (PySem.W.mroIn K (He.ga K cn) (.type "object")) (some true)))))))
def xiB (K : PySem.W.Frag) (es : List Str) : Bool := es.all fun n => exB K n && (eqB (PySem.W.kitOne K (.ref (He.ga K n)) (.type "ValueError")) (some true) && es.all fun m => eqB (PySem.W.kitOne K (.ref (He.ga K n)) (.ref (He.ga K m))) (some (xsub n m)))
end LW
namespace K01
open PySem L2 LW PyProof.Rows
def topS (i : Nat) : Stmt := PySem.Challenge.pw_leafwaits_k01_errors_made.main.body.getD i (.Pass ⟨0, 0, 0, 0⟩)
abbrev s__law_purse : Stmt := topS 31
abbrev s__law_purses : Stmt := topS 34
abbrev s__law_mixed : Stmt := topS 32
abbrev s__law_draw : Stmt := topS 33
abbrev s__law_word : Stmt := topS 36
abbrev s__law_one_of : Stmt := topS 35
abbrev s__law_named : Stmt := topS 38
abbrev s__law_first : Stmt := topS 37
abbrev s__law_code : Stmt := topS 40
abbrev s__law_is_error : Stmt := topS 41
abbrev s__law_right : Stmt := topS 42
abbrev s__law_bare : Stmt := topS 39
abbrev s_law : Stmt := topS 43
def dfd (a : PySem.Str × Option PySem.Str) (n qn : PySem.Str) (st : Stmt) (dv : List He.Dv) : He.DefD := ⟨a, n, qn, defArgs st, defBody st, defScope st, dv, []⟩
def hnames0 : List PySem.Str := [("__name__" : PySem.Str), ("LeafError" : PySem.Str), ("InvalidTerm" : PySem.Str), ("InvalidRule" : PySem.Str), ("NotFlat" : PySem.Str), ("InvalidPath" : PySem.Str), ("InvalidRows" : PySem.Str), ("InvalidHours" : PySem.Str), ("InvalidWhole" : PySem.Str), ("InvalidCount" : PySem.Str)]
def hnames1 : List PySem.Str := [("InvalidName" : PySem.Str), ("InvalidNames" : PySem.Str), ("UnknownName" : PySem.Str), ("TakenName" : PySem.Str), ("InvalidRules" : PySem.Str), ("InvalidBook" : PySem.Str), ("Unlike" : PySem.Str), ("InvalidLates" : PySem.Str), ("InvalidCorners" : PySem.Str), ("InvalidStair" : PySem.Str)]
def hnames2 : List PySem.Str := [("InvalidWindows" : PySem.Str), ("InvalidSights" : PySem.Str), ("Clash" : PySem.Str), ("InvalidHall" : PySem.Str), ("InvalidScript" : PySem.Str), ("InvalidLog" : PySem.Str), ("InvalidText" : PySem.Str), ("StillNeeded" : PySem.Str), ("NothingToUndo" : PySem.Str), ("NothingToRedo" : PySem.Str)]
def hnames3 : List PySem.Str := [("_law_purse" : PySem.Str), ("_law_mixed" : PySem.Str), ("_law_draw" : PySem.Str), ("_law_purses" : PySem.Str), ("_law_one_of" : PySem.Str), ("_law_word" : PySem.Str), ("_law_first" : PySem.Str), ("_law_named" : PySem.Str), ("_law_bare" : PySem.Str), ("_law_code" : PySem.Str)]
def hnames4 : List PySem.Str := [("_law_is_error" : PySem.Str), ("_law_right" : PySem.Str)]
def hnames : List PySem.Str := hnames0 ++ (hnames1 ++ (hnames2 ++ (hnames3 ++ (hnames4))))
def D0 : He.DefD := dfd ("_law_bare", none) "_law_bare" "_law_bare" (s__law_bare) []
def D1 : He.DefD := dfd ("_law_code", none) "_law_code" "_law_code" (s__law_code) []
def D2 : He.DefD := dfd ("_law_draw", none) "_law_draw" "_law_draw" (s__law_draw) []
def D3 : He.DefD := dfd ("_law_first", none) "_law_first" "_law_first" (s__law_first) []
def D4 : He.DefD := dfd ("_law_is_error", none) "_law_is_error" "_law_is_error" (s__law_is_error) []
def D5 : He.DefD := dfd ("_law_mixed", none) "_law_mixed" "_law_mixed" (s__law_mixed) []
def D6 : He.DefD := dfd ("_law_named", none) "_law_named" "_law_named" (s__law_named) []
def D7 : He.DefD := dfd ("_law_one_of", none) "_law_one_of" "_law_one_of" (s__law_one_of) []
def D8 : He.DefD := dfd ("_law_purse", none) "_law_purse" "_law_purse" (s__law_purse) []
def D9 : He.DefD := dfd ("_law_purses", none) "_law_purses" "_law_purses" (s__law_purses) []
def D10 : He.DefD := dfd ("_law_right", none) "_law_right" "_law_right" (s__law_right) []
def D11 : He.DefD := dfd ("_law_word", none) "_law_word" "_law_word" (s__law_word) []
def D12 : He.DefD := dfd ("law", none) "law" "law" (s_law) []
def L0 : LfD := ("Clash", "Clash.__init__", psOf (inClass (topS 22) 0))
def L1 : LfD := ("InvalidBook", "InvalidBook.__init__", psOf (inClass (topS 15) 0))
def L2 : LfD := ("InvalidCorners", "InvalidCorners.__init__", psOf (inClass (topS 18) 0))
def L3 : LfD := ("InvalidCount", "InvalidCount.__init__", psOf (inClass (topS 9) 0))
def L4 : LfD := ("InvalidHall", "InvalidHall.__init__", psOf (inClass (topS 23) 0))
def L5 : LfD := ("InvalidHours", "InvalidHours.__init__", psOf (inClass (topS 7) 0))
def L6 : LfD := ("InvalidLates", "InvalidLates.__init__", psOf (inClass (topS 17) 0))
def L7 : LfD := ("InvalidLog", "InvalidLog.__init__", psOf (inClass (topS 25) 0))
def L8 : LfD := ("InvalidName", "InvalidName.__init__", psOf (inClass (topS 10) 0))
def L9 : LfD := ("InvalidNames", "InvalidNames.__init__", psOf (inClass (topS 11) 0))
def L10 : LfD := ("InvalidPath", "InvalidPath.__init__", psOf (inClass (topS 5) 0))
def L11 : LfD := ("InvalidRows", "InvalidRows.__init__", psOf (inClass (topS 6) 0))
def L12 : LfD := ("InvalidRule", "InvalidRule.__init__", psOf (inClass (topS 3) 0))
def L13 : LfD := ("InvalidRules", "InvalidRules.__init__", psOf (inClass (topS 14) 0))
def L14 : LfD := ("InvalidScript", "InvalidScript.__init__", psOf (inClass (topS 24) 0))
def L15 : LfD := ("InvalidSights", "InvalidSights.__init__", psOf (inClass (topS 21) 0))
def L16 : LfD := ("InvalidStair", "InvalidStair.__init__", psOf (inClass (topS 19) 0))
def L17 : LfD := ("InvalidTerm", "InvalidTerm.__init__", psOf (inClass (topS 2) 0))
def L18 : LfD := ("InvalidText", "InvalidText.__init__", psOf (inClass (topS 26) 0))
def L19 : LfD := ("InvalidWhole", "InvalidWhole.__init__", psOf (inClass (topS 8) 0))
def L20 : LfD := ("InvalidWindows", "InvalidWindows.__init__", psOf (inClass (topS 20) 0))
def L21 : LfD := ("NotFlat", "NotFlat.__init__", psOf (inClass (topS 4) 0))
def L22 : LfD := ("StillNeeded", "StillNeeded.__init__", psOf (inClass (topS 27) 0))
def L23 : LfD := ("TakenName", "TakenName.__init__", psOf (inClass (topS 13) 0))
def L24 : LfD := ("UnknownName", "UnknownName.__init__", psOf (inClass (topS 12) 0))
def L25 : LfD := ("Unlike", "Unlike.__init__", psOf (inClass (topS 16) 0))
def hfa0 : List He.Fa := [.glo "_law_bare", .glo "_law_code", .glo "_law_draw", .glo "_law_first", .glo "_law_is_error", .glo "_law_mixed", .glo "_law_named", .glo "_law_one_of", .glo "_law_purse", .glo "_law_purses"]
def hfa1 : List He.Fa := [.glo "_law_right", .glo "_law_word", .glo "law", .glo "LeafError", .exc "LeafError", .glo "NothingToRedo", .exc "NothingToRedo", .glo "NothingToUndo", .exc "NothingToUndo", .glo "Clash"]
def hfa2 : List He.Fa := [.glo "InvalidBook", .glo "InvalidCorners", .glo "InvalidCount", .glo "InvalidHall", .glo "InvalidHours", .glo "InvalidLates", .glo "InvalidLog", .glo "InvalidName", .glo "InvalidNames", .glo "InvalidPath"]
def hfa3 : List He.Fa := [.glo "InvalidRows", .glo "InvalidRule", .glo "InvalidRules", .glo "InvalidScript", .glo "InvalidSights", .glo "InvalidStair", .glo "InvalidTerm", .glo "InvalidText", .glo "InvalidWhole", .glo "InvalidWindows"]
def hfa4 : List He.Fa := [.glo "NotFlat", .glo "StillNeeded", .glo "TakenName", .glo "UnknownName", .glo "Unlike", .free "ValueError", .free "dict", .free "isinstance", .free "len", .free "list"]
def hfa5 : List He.Fa := [.free "max", .free "min", .free "range", .free "repr", .free "sum", .free "super"]
def hfa : List He.Fa := hfa0 ++ (hfa1 ++ (hfa2 ++ (hfa3 ++ (hfa4 ++ (hfa5)))))
def hfn0 : List He.DefD := [D0, D1, D2, D3, D4, D5, D6, D7, D8, D9]
def hfn1 : List He.DefD := [D10, D11, D12]
def hfn : List He.DefD := hfn0 ++ (hfn1)
def hln0 : List LfD := [L0, L1, L2, L3, L4, L5, L6, L7, L8, L9]
def hln1 : List LfD := [L10, L11, L12, L13, L14, L15, L16, L17, L18, L19]
def hln2 : List LfD := [L20, L21, L22, L23, L24, L25]
def hln : List LfD := hln0 ++ (hln1 ++ (hln2))
def hex0 (K : PySem.W.Frag) : List Bool := [lfB "/claim/cut.py" K L0, lfB "/claim/cut.py" K L1, lfB "/claim/cut.py" K L2, lfB "/claim/cut.py" K L3, lfB "/claim/cut.py" K L4, lfB "/claim/cut.py" K L5, lfB "/claim/cut.py" K L6, lfB "/claim/cut.py" K L7, lfB "/claim/cut.py" K L8, lfB "/claim/cut.py" K L9]
def hex1 (K : PySem.W.Frag) : List Bool := [lfB "/claim/cut.py" K L10, lfB "/claim/cut.py" K L11, lfB "/claim/cut.py" K L12, lfB "/claim/cut.py" K L13, lfB "/claim/cut.py" K L14, lfB "/claim/cut.py" K L15, lfB "/claim/cut.py" K L16, lfB "/claim/cut.py" K L17, lfB "/claim/cut.py" K L18, lfB "/claim/cut.py" K L19]
def hex2 (K : PySem.W.Frag) : List Bool := [lfB "/claim/cut.py" K L20, lfB "/claim/cut.py" K L21, lfB "/claim/cut.py" K L22, lfB "/claim/cut.py" K L23, lfB "/claim/cut.py" K L24, lfB "/claim/cut.py" K L25, xiB K ["InvalidTerm", "InvalidRule", "NotFlat", "InvalidPath", "InvalidRows", "InvalidHours", "InvalidWhole", "InvalidCount", "InvalidName", "InvalidNames", "UnknownName", "TakenName", "InvalidRules", "InvalidBook", "Unlike", "InvalidLates", "InvalidCorners", "InvalidStair", "InvalidWindows", "InvalidSights", "Clash", "InvalidHall", "InvalidScript", "InvalidLog", "InvalidText", "StillNeeded", "NothingToUndo", "NothingToRedo", "LeafError"]]
def hexl (K : PySem.W.Frag) : List Bool := hex0 K ++ (hex1 K ++ (hex2 K))
def hex (K : PySem.W.Frag) : Bool := andL (hexl K)
abbrev HR : PySem.W.OpenRow := PySem.W.OpenLaw.row PySem.Challenge.rw_leafwaits_k01_errors_made
abbrev hk : PySem.W.Hook := hookC 5 hfa hfn hln hex
def hob (s : PySem.W.SharedT) : AlC := obsC 5 hfa hfn hln hex (HandSHeadRun.getT s)
theorem hob_eq (s : PySem.W.SharedT) : hob s = hk.obs s.abs := obsC_eq (HandSHeadRun.getT_eq s)
set_option maxHeartbeats 0 in
theorem hrun (w : World) : HandSHeadRun.RunEq HR (PySem.W.view HR.prog [43]) hk hob 12000 hnames w := by
  intro os
  kernel_rfl
end K01
set_option Elab.async false
set_option linter.all false
set_option maxRecDepth 100000
set_option maxHeartbeats 4000000
/-! LwA: plain data for what stands in the heap; the relation of an environment of plain data with a frame; readings by plain functions. -/
namespace LW
open PySem L2

/-- plain data. fro: a list that nobody may write; cell k, dcl k, ocl k: the k-th thing that may still change: a list, a dict, an instance; obj: an instance that changes no more -/
inductive D where
  | non | bl (b : Bool) | int (i : Int) | str (x : Str) | ty (n : String)
  | tup (xs : List D) | lst (xs : List D) | fro (xs : List D) | cell (k : Nat)
  | obj (c : Str) (ns : List Str) (vs : List D) | cls (c : Str)
  | dic (ks : List Key) (vs : List D) | dit (ks : List (List Key)) (vs : List D)
  | dcl (k : Nat) | ocl (k : Nat) | hid (o : HO) | err (c : Str) (vs : List D)
  deriving Inhabited

/-- what the module's names hold; the written part -/
structure Glob where
  mg : Str → Option Value
  K : PySem.W.Frag
/-- the protected addresses: they may still change -/
abbrev Prot := Addr → Prop
abbrev Sto := List (List D)

/-- an error of the class at C, its dict (none | at d), that is handed about -/
def ErO (C : Addr) (d : Option Addr) (a : Addr) : HO := .ext fun h => ∃ (oe : Obj) (vs : Array Value), h.get? a = some oe ∧ Zc (.ref C) d oe ∧ oe.data = .fields vs
theorem ero_dK {C : Addr} {d : Option Addr} {a : Addr} {kvs : List (Key × V)} : ErO C d a ≠ .dK kvs := fun z => by
  have z' : HO.ext _ = HO.dK kvs := z
  cases z'
theorem ero_frz {C : Addr} {d : Option Addr} {a : Addr} {o : Obj} {u : HO} : ErO C d a ≠ .frz o u := fun z => by
  have z' : HO.ext _ = HO.frz o u := z
  cases z'
mutual
inductive Rep (mg : Glob) (N : Prot) (c : List Addr) (H : Hp) : V → D → Prop where
  | non : Rep mg N c H .non .non
  | bl (b : Bool) : Rep mg N c H (.bl b) (.bl b)
  | int (i : Int) : Rep mg N c H (.int i) (.int i)
  | str (x : Str) : Rep mg N c H (.str x) (.str x)
  | ty (n : String) : Rep mg N c H (.ty n) (.ty n)
  | cls {cn : Str} {C : Addr} (h : mg.mg cn = some (.ref C)) : Rep mg N c H (.ref C) (.cls cn)
  | tup {a : Addr} {vs : List V} {ds : List D} (h : H a = some (.tup vs)) (r : RepL mg N c H vs ds) : Rep mg N c H (.ref a) (.tup ds)
  | lst {a : Addr} {vs : List V} {ds : List D} (h : H a = some (.lst vs)) (n : ¬ N a) (r : RepL mg N c H vs ds) : Rep mg N c H (.ref a) (.lst ds)
  | fro {a : Addr} {o : Obj} {vs : List V} {ds : List D} (h : H a = some (.frz o (.lst vs))) (n : ¬ N a) (r : RepL mg N c H vs ds) : Rep mg N c H (.ref a) (.fro ds)
  | kro {a : Addr} {ns : List Int} (h : ∀ H' : Hp, SqL mg.K H' a (ns.map V.int)) : Rep mg N c H (.ref a) (.fro (ns.map D.int))
  | cell {k : Nat} {a : Addr} (h : c[k]? = some a) : Rep mg N c H (.ref a) (.cell k)
  | dcl {k : Nat} {a : Addr} (h : c[k]? = some a) : Rep mg N c H (.ref a) (.dcl k)
  | ocl {k : Nat} {a : Addr} (h : c[k]? = some a) : Rep mg N c H (.ref a) (.ocl k)
  | obj {a C dx : Addr} {fs : List (Str × V)} {cn : Str} {ns : List Str} {ds : List D} (hc : mg.mg cn = some (.ref C)) (h : H a = some (.ins C dx fs)) (n : ¬ N a) (hn : fs.map (·.1) = ns) (r : RepL mg N c H (fs.map (·.2)) ds) : Rep mg N c H (.ref a) (.obj cn ns ds)
  | dic {a : Addr} {kvs : List (Key × V)} {ks : List Key} {ds : List D} (h : H a = some (.dK kvs)) (n : ¬ N a) (hn : kvs.map (·.1) = ks) (r : RepL mg N c H (kvs.map (·.2)) ds) : Rep mg N c H (.ref a) (.dic ks ds)
  | dfz {a : Addr} {o : Obj} {kvs : List (Key × V)} {ks : List Key} {ds : List D} (h : H a = some (.frz o (.dK kvs))) (n : ¬ N a) (hn : kvs.map (·.1) = ks) (r : RepL mg N c H (kvs.map (·.2)) ds) : Rep mg N c H (.ref a) (.dic ks ds)
  | dit {a : Addr} {kvs : List (List Key × V)} {ks : List (List Key)} {ds : List D} (h : H a = some (.dT kvs)) (n : ¬ N a) (hn : kvs.map (·.1) = ks) (r : RepL mg N c H (kvs.map (·.2)) ds) : Rep mg N c H (.ref a) (.dit ks ds)
  | ditz {a : Addr} {o : Obj} {kvs : List (List Key × V)} {ks : List (List Key)} {ds : List D} (h : H a = some (.frz o (.dT kvs))) (n : ¬ N a) (hn : kvs.map (·.1) = ks) (r : RepL mg N c H (kvs.map (·.2)) ds) : Rep mg N c H (.ref a) (.dit ks ds)
  | err0 {a C : Addr} {cn : Str} (hc : mg.mg cn = some (.ref C)) (h : H a = some (ErO C none a)) (n : ¬ N a) : Rep mg N c H (.ref a) (.err cn [])
  | err1 {a C dx : Addr} {cn : Str} {v : V} {d : D} (hc : mg.mg cn = some (.ref C)) (h : H a = some (ErO C (some dx) a)) (n : ¬ N a) (hd : H dx = some (.xd [(("value" : Str), v)])) (nd : ¬ N dx) (r : Rep mg N c H v d) : Rep mg N c H (.ref a) (.err cn [d])
inductive RepL (mg : Glob) (N : Prot) (c : List Addr) (H : Hp) : List V → List D → Prop where
  | nil : RepL mg N c H [] []
  | cons {v : V} {d : D} {vs : List V} {ds : List D} (h : Rep mg N c H v d) (t : RepL mg N c H vs ds) : RepL mg N c H (v :: vs) (d :: ds)
end

/-- a step of the heap as data sees it -/
structure Tr (N : Prot) (c : List Addr) (H : Hp) (N' : Prot) (c' : List Addr) (H' : Hp) : Prop where
  keep : ∀ a o, H a = some o → ¬ N a → H' a = some o
  new : ∀ a, N' a → N a ∨ H a = none
  pre : ∀ (k : Nat) a, c[k]? = some a → c'[k]? = some a
  tup : ∀ a vs, H a = some (.tup vs) → H' a = some (.tup vs)
section
variable {mg : Glob} {N N' : Prot} {c c' : List Addr} {H H' : Hp}
theorem Tr.own (t : Tr N c H N' c' H') {a : Addr} {u : HO} (h : H a = some u) (n : ¬ N a) : H' a = some u ∧ ¬ N' a :=
  ⟨t.keep _ _ h n, fun z => (t.new a z).elim n fun e => by rw [h] at e; cases e⟩
mutual
theorem Rep.tr {v : V} {d : D} (t : Tr N c H N' c' H') : Rep mg N c H v d → Rep mg N' c' H' v d
  | .non => .non
  | .bl b => .bl b
  | .int i => .int i
  | .str x => .str x
  | .ty n => .ty n
  | .cls h => .cls h
  | .tup h r => .tup (t.tup _ _ h) (RepL.tr t r)
  | .lst h n r => .lst (t.own h n).1 (t.own h n).2 (RepL.tr t r)
  | .fro h n r => .fro (t.own h n).1 (t.own h n).2 (RepL.tr t r)
  | .kro h => .kro h
  | .cell h => .cell (t.pre _ _ h)
  | .dcl h => .dcl (t.pre _ _ h)
  | .ocl h => .ocl (t.pre _ _ h)
  | .obj hc h n hn r => .obj hc (t.own h n).1 (t.own h n).2 hn (RepL.tr t r)
  | .dic h n hn r => .dic (t.own h n).1 (t.own h n).2 hn (RepL.tr t r)
  | .dfz h n hn r => .dfz (t.own h n).1 (t.own h n).2 hn (RepL.tr t r)
  | .dit h n hn r => .dit (t.own h n).1 (t.own h n).2 hn (RepL.tr t r)
  | .ditz h n hn r => .ditz (t.own h n).1 (t.own h n).2 hn (RepL.tr t r)
  | .err0 hc h n => .err0 hc (t.own h n).1 (t.own h n).2
  | .err1 hc h n hd nd r => .err1 hc (t.own h n).1 (t.own h n).2 (t.own hd nd).1 (t.own hd nd).2 (Rep.tr t r)
theorem RepL.tr {vs : List V} {ds : List D} (t : Tr N c H N' c' H') : RepL mg N c H vs ds → RepL mg N' c' H' vs ds
  | .nil => .nil
  | .cons h r => .cons (Rep.tr t h) (RepL.tr t r)
end
theorem RepL.length {vs : List V} {ds : List D} : RepL mg N c H vs ds → vs.length = ds.length
  | .nil => rfl
  | .cons _ r => by rw [List.length_cons, List.length_cons, RepL.length r]
theorem RepL.get {vs : List V} {ds : List D} : ∀ {i : Nat} {d : D}, RepL mg N c H vs ds → ds[i]? = some d → ∃ v, vs[i]? = some v ∧ Rep mg N c H v d
  | _, _, .nil, e => by simp at e
  | 0, _, .cons h _, e => by simp at e; subst e; exact ⟨_, rfl, h⟩
  | i + 1, d, .cons _ r, e => by
    obtain ⟨v, h1, h2⟩ := RepL.get (i := i) (d := d) r (by simpa using e)
    exact ⟨v, by simpa using h1, h2⟩
theorem RepL.append {vs us : List V} {ds es : List D} : RepL mg N c H vs ds → RepL mg N c H us es → RepL mg N c H (vs ++ us) (ds ++ es)
  | .nil, s => s
  | .cons h r, s => .cons h (RepL.append r s)
theorem RepL.take {vs : List V} {ds : List D} : ∀ (n : Nat), RepL mg N c H vs ds → RepL mg N c H (vs.take n) (ds.take n)
  | 0, _ => .nil
  | _ + 1, .nil => .nil
  | n + 1, .cons h r => .cons h (RepL.take n r)
theorem RepL.drop {vs : List V} {ds : List D} : ∀ (n : Nat), RepL mg N c H vs ds → RepL mg N c H (vs.drop n) (ds.drop n)
  | 0, r => r
  | _ + 1, .nil => .nil
  | n + 1, .cons _ r => RepL.drop n r
theorem RepL.set {v : V} {d : D} (h : Rep mg N c H v d) {vs : List V} {ds : List D} : ∀ (n : Nat), RepL mg N c H vs ds → RepL mg N c H (vs.set n v) (ds.set n d)
  | _, .nil => .nil
  | 0, .cons _ r => .cons h r
  | n + 1, .cons q r => .cons q (RepL.set h n r)
theorem RepL.reverse {vs : List V} {ds : List D} : RepL mg N c H vs ds → RepL mg N c H vs.reverse ds.reverse
  | .nil => .nil
  | .cons h r => by
    rw [List.reverse_cons, List.reverse_cons]
    exact (RepL.reverse r).append (.cons h .nil)
theorem RepL.ints : ∀ (ns : List Int), RepL mg N c H (ns.map V.int) (ns.map D.int)
  | [] => .nil
  | n :: r => .cons (.int n) (RepL.ints r)
theorem RepL.of_ints : ∀ {ns : List Int} {vs : List V}, RepL mg N c H vs (ns.map D.int) → vs = ns.map V.int
  | [], _, .nil => rfl
  | n :: r, _, .cons (.int _) t => by rw [RepL.of_ints t]; rfl
end

/-- what stands at the head of a cell that is no list: nothing is told by it -/
def tagD : D := .dit [[]] []
def isTag : List D → Bool
  | .dit [_] [] :: _ => true
  | _ => false
theorem RepL.noTag {mg : Glob} {N : Prot} {c : List Addr} {H : Hp} {vs : List V} {xs : List D} (r : RepL mg N c H vs xs) : isTag xs = false := by
  cases r with
  | nil => rfl
  | cons h t =>
    have go : ∀ (kvs : List (List Key × V)) (ks : List (List Key)) (ds ds0 : List D), kvs.map (·.1) = ks → RepL mg N c H (kvs.map (·.2)) ds → isTag (.dit ks ds :: ds0) = false := fun kvs ks ds ds0 hn r2 => by
      have l1 := congrArg List.length hn
      have l2 := r2.length
      rw [List.length_map] at l1 l2
      clear hn r2
      cases ds with
      | nil =>
        cases ks with
        | nil => rfl
        | cons _ _ => exact absurd (l1.symm.trans l2) (by simp)
      | cons _ _ =>
        cases ks with
        | nil => rfl
        | cons _ ks => cases ks <;> rfl
    cases h with
    | dit hh nn hn r2 => exact go _ _ _ _ hn r2
    | ditz hh nn hn r2 => exact go _ _ _ _ hn r2
    | _ => rfl
/-- what a cell holds -/
inductive CRep (mg : Glob) (N : Prot) (c : List Addr) (H : Hp) : HO → List D → Prop where
  | l {vs : List V} {xs : List D} (r : RepL mg N c H vs xs) : CRep mg N c H (.lst vs) xs
  | k {kvs : List (Key × V)} {ds : List D} (r : RepL mg N c H (kvs.map (·.2)) ds) : CRep mg N c H (.dK kvs) [tagD, .dic (kvs.map (·.1)) ds]
  | kz {od : Obj} {kvs : List (Key × V)} {ds : List D} (r : RepL mg N c H (kvs.map (·.2)) ds) : CRep mg N c H (.frz od (.dK kvs)) [tagD, .dic (kvs.map (·.1)) ds, .hid (.frz od (.dK kvs))]
  | t {kvs : List (List Key × V)} {ds : List D} (r : RepL mg N c H (kvs.map (·.2)) ds) : CRep mg N c H (.dT kvs) [tagD, .dit (kvs.map (·.1)) ds]
  | i {C dx : Addr} {cn : Str} {fs : List (Str × V)} {ds : List D} (hc : mg.mg cn = some (.ref C)) (r : RepL mg N c H (fs.map (·.2)) ds) : CRep mg N c H (.ins C dx fs) [tagD, .obj cn (fs.map (·.1)) ds]
theorem CRep.tr {mg : Glob} {N N' : Prot} {c c' : List Addr} {H H' : Hp} {o : HO} {xs : List D} (t : Tr N c H N' c' H') : CRep mg N c H o xs → CRep mg N' c' H' o xs
  | .l r => .l (r.tr t)
  | .k r => .k (r.tr t)
  | .kz r => .kz (r.tr t)
  | .t r => .t (r.tr t)
  | .i hc r => .i hc (r.tr t)
theorem CRep.lst {mg : Glob} {N : Prot} {c : List Addr} {H : Hp} {o : HO} {xs : List D} (h : CRep mg N c H o xs) (nt : isTag xs = false) : ∃ vs, o = .lst vs ∧ RepL mg N c H vs xs := by
  cases h with
  | l r => exact ⟨_, rfl, r⟩
  | k r => cases nt
  | kz r => cases nt
  | t r => cases nt
  | i hc r => cases nt
/-- a step of an expression: all that is no cell stays -/
structure Ex (N : Prot) (c : List Addr) (H : Hp) (N' : Prot) (c' : List Addr) (H' : Hp) : Prop where
  keep : ∀ a o, H a = some o → a ∉ c → H' a = some o
  new : ∀ a, N' a → N a ∨ H a = none
  mono : ∀ a, N a → N' a
  pre : ∀ (k : Nat) a, c[k]? = some a → c'[k]? = some a
  newc : ∀ a, a ∈ c' → a ∈ c ∨ H a = none
/-- the cells and the protected addresses stand well -/
structure Wd (mg : Glob) (N : Prot) (c : List Addr) (H : Hp) (st : Sto) : Prop where
  len : c.length = st.length
  sto : ∀ (k : Nat) a xs, c[k]? = some a → st[k]? = some xs → ∃ o, H a = some o ∧ CRep mg N c H o xs
  cn : ∀ a, a ∈ c → N a
  nd : c.Nodup
  trk : ∀ a, N a → H a ≠ none
/-- the list in a cell; the dict in a cell; the instance in a cell -/
def lcG (st : Sto) (k : Nat) : Option (List D) := match st[k]? with
  | some xs => match isTag xs with
    | true => none
    | false => some xs
  | none => none
theorem lcG_of {st : Sto} {k : Nat} {xs : List D} (e : st[k]? = some xs) (nt : isTag xs = false) : lcG st k = some xs := by
  unfold lcG
  rw [e]
  dsimp only
  rw [nt]
theorem lcG_some {st : Sto} {k : Nat} {xs : List D} (e : lcG st k = some xs) : st[k]? = some xs ∧ isTag xs = false := by
  unfold lcG at e
  split at e
  · rename_i ys h
    split at e
    · cases e
    · rename_i nt
      cases e
      exact ⟨h, nt⟩
  · cases e
theorem Wd.lstC {mg : Glob} {N : Prot} {c : List Addr} {H : Hp} {st : Sto} (W : Wd mg N c H st) {k : Nat} {a : Addr} {xs : List D} (hc : c[k]? = some a) (e : lcG st k = some xs) : ∃ vs, H a = some (.lst vs) ∧ RepL mg N c H vs xs := by
  obtain ⟨h1, h2⟩ := lcG_some e
  obtain ⟨o, ha, r⟩ := W.sto k a xs hc h1
  obtain ⟨vs, rfl, r2⟩ := r.lst h2
  exact ⟨vs, ha, r2⟩
/-- the dict in a cell, to be read; to be written -/
def dcG (st : Sto) (k : Nat) : Option (List Key × List D) := match st[k]? with
  | some [.dit [_] [], .dic ks ds] => some (ks, ds)
  | some [.dit [_] [], .dic ks ds, .hid _] => some (ks, ds)
  | _ => none
def dcU (st : Sto) (k : Nat) : Option (List Key × List D) := match st[k]? with
  | some [.dit [_] [], .dic ks ds] => some (ks, ds)
  | _ => none
abbrev unC (p : List Key × List D) : List D := [tagD, .dic p.1 p.2]
theorem Wd.dcU {mg : Glob} {N : Prot} {c : List Addr} {H : Hp} {st : Sto} (W : Wd mg N c H st) {k : Nat} {a : Addr} {p : List Key × List D} (hc : c[k]? = some a) (e : dcU st k = some p) : ∃ kvs, H a = some (.dK kvs) ∧ kvs.map (·.1) = p.1 ∧ RepL mg N c H (kvs.map (·.2)) p.2 := by
  unfold LW.dcU at e
  split at e
  · rename_i h
    cases e
    obtain ⟨o, ha, r⟩ := W.sto k a _ hc h
    cases r with
    | l r => have := r.noTag; cases this
    | k r => exact ⟨_, ha, rfl, r⟩
  · cases e
theorem Wd.dcG {mg : Glob} {N : Prot} {c : List Addr} {H : Hp} {st : Sto} (W : Wd mg N c H st) {k : Nat} {a : Addr} {p : List Key × List D} (hc : c[k]? = some a) (e : dcG st k = some p) : ∃ kvs, (H a = some (.dK kvs) ∨ ∃ od, H a = some (.frz od (.dK kvs))) ∧ kvs.map (·.1) = p.1 ∧ RepL mg N c H (kvs.map (·.2)) p.2 := by
  unfold LW.dcG at e
  split at e
  · rename_i h
    cases e
    obtain ⟨o, ha, r⟩ := W.sto k a _ hc h
    cases r with
    | l r => have := r.noTag; cases this
    | k r => exact ⟨_, .inl ha, rfl, r⟩
  · rename_i h
    cases e
    obtain ⟨o, ha, r⟩ := W.sto k a _ hc h
    cases r with
    | l r => have := r.noTag; cases this
    | kz r => exact ⟨_, .inr ⟨_, ha⟩, rfl, r⟩
  · cases e
section
variable {mg : Glob} {N N' N'' : Prot} {c c' c'' : List Addr} {H H' H'' : Hp} {st st' : Sto}
theorem Ex.refl : Ex N c H N c H := ⟨fun _ _ h _ => h, fun _ h => .inl h, fun _ h => h, fun _ _ h => h, fun _ h => .inl h⟩
theorem Ex.nc (x : Ex N c H N' c' H') (W : Wd mg N c H st) {a : Addr} {o : HO} (h : H a = some o) (n : a ∉ c) : a ∉ c' := fun z => (x.newc a z).elim n fun e => by rw [h] at e; cases e
theorem Ex.trans (x : Ex N c H N' c' H') (y : Ex N' c' H' N'' c'' H'') (W : Wd mg N c H st) : Ex N c H N'' c'' H'' where
  keep := fun a o h n => y.keep a o (x.keep a o h n) (x.nc W h n)
  new := fun a z => (y.new a z).elim (x.new a) fun e => by
    cases q : H a with
    | none => exact .inr rfl
    | some o =>
      by_cases hn : a ∈ c
      · exact .inl (W.cn a hn)
      · rw [x.keep a o q hn] at e; cases e
  mono := fun a z => y.mono a (x.mono a z)
  pre := fun k a h => y.pre k a (x.pre k a h)
  newc := fun a z => (y.newc a z).elim (x.newc a) fun e => by
    cases q : H a with
    | none => exact .inr rfl
    | some o =>
      by_cases hn : a ∈ c
      · exact .inl hn
      · rw [x.keep a o q hn] at e; cases e
theorem Wd.ntup (W : Wd mg N c H st) {a : Addr} {vs : List V} (h : H a = some (.tup vs)) : a ∉ c := fun z => by
  obtain ⟨k, hk⟩ := List.getElem?_of_mem z
  have hl : k < st.length := by rw [← W.len]; exact (List.getElem?_eq_some_iff.mp hk).1
  obtain ⟨o, ho, r⟩ := W.sto k a st[k] hk (List.getElem?_eq_getElem hl)
  rw [h] at ho
  cases ho
  cases r
theorem Ex.tr (x : Ex N c H N' c' H') (W : Wd mg N c H st) : Tr N c H N' c' H' := ⟨fun a o h n => x.keep a o h fun z => n (W.cn a z), x.new, x.pre, fun a vs h => x.keep a _ h (W.ntup h)⟩
theorem Ex.free (x : Ex N c H N' c' H') (W : Wd mg N c H st) (W' : Wd mg N' c' H' st') {a : Addr} (h : H' a = none) : H a = none := by
  cases q : H a with
  | none => rfl
  | some o =>
    by_cases hn : a ∈ c
    · exact absurd h (W'.trk a (x.mono a (W.cn a hn)))
    · rw [x.keep a o q hn] at h; cases h
theorem Wd.nsome (W : Wd mg N c H st) {a : Addr} (h : H a = none) : ¬ N a := fun z => W.trk a z h
theorem Wd.cnone (W : Wd mg N c H st) {a : Addr} (h : H a = none) : a ∉ c := fun z => W.trk a (W.cn a z) h
/-- an object is laid: as data -/
theorem Ex.laid (W : Wd mg N c H st) {p : Addr} {o : HO} (hp : H p = none) : Ex N c H N c (upd H p o) where
  keep := fun a u h _ => by rw [upd_ne (ne_of_none h hp)]; exact h
  new := fun _ h => .inl h
  mono := fun _ h => h
  pre := fun _ _ h => h
  newc := fun _ h => .inl h
/-- an object is laid and protected -/
theorem Ex.laidN (W : Wd mg N c H st) {p : Addr} {o : HO} (hp : H p = none) : Ex N c H (fun a => N a ∨ a = p) c (upd H p o) where
  keep := fun a u h _ => by rw [upd_ne (ne_of_none h hp)]; exact h
  new := fun a h => h.elim .inl fun e => by rw [e]; exact .inr hp
  mono := fun _ h => .inl h
  pre := fun _ _ h => h
  newc := fun _ h => .inl h
theorem Wd.ex0 (W : Wd mg N c H st) (x : Ex N c H N' c H') (hk : ∀ a o, H a = some o → H' a = some o) (hn : ∀ a, N' a → H' a ≠ none) : Wd mg N' c H' st :=
  ⟨W.len, fun k a xs h1 h2 => let ⟨vs, e, r⟩ := W.sto k a xs h1 h2; ⟨vs, hk _ _ e, r.tr (x.tr W)⟩, fun a h => x.mono a (W.cn a h), W.nd, hn⟩
theorem Wd.laid (W : Wd mg N c H st) {p : Addr} {o : HO} (hp : H p = none) : Wd mg N c (upd H p o) st :=
  W.ex0 (Ex.laid W hp) (fun a u h => by rw [upd_ne (ne_of_none h hp)]; exact h) fun a h e => by
    by_cases q : a = p
    · rw [q, upd_same] at e; cases e
    · rw [upd_ne q] at e; exact W.trk a h e
theorem Wd.laidN (W : Wd mg N c H st) {p : Addr} {o : HO} (hp : H p = none) : Wd mg (fun a => N a ∨ a = p) c (upd H p o) st :=
  W.ex0 (Ex.laidN W hp) (fun a u h => by rw [upd_ne (ne_of_none h hp)]; exact h) fun a h e => by
    by_cases q : a = p
    · rw [q, upd_same] at e; cases e
    · rw [upd_ne q] at e
      exact h.elim (fun z => W.trk a z e) q
/-- fewer protected ones -/
theorem Tr.less (h : ∀ a, N' a → N a) : Tr N c H N' c H := ⟨fun _ _ e _ => e, fun a z => .inl (h a z), fun _ _ e => e, fun _ _ e => e⟩
theorem Wd.less (W : Wd mg N c H st) (h : ∀ a, N' a → N a) (hc : ∀ a, a ∈ c → N' a) : Wd mg N' c H st :=
  ⟨W.len, fun k a xs h1 h2 => let ⟨vs, e, r⟩ := W.sto k a xs h1 h2; ⟨vs, e, r.tr (Tr.less h)⟩, hc, W.nd, fun a z => W.trk a (h a z)⟩
end

/-! ### slots and environments -/
/-- a slot: unknown; data; a list, an instance that this frame alone holds and may change -/
inductive Sl where
  | un | val (d : D) | own (xs : List D) | ownI (c : Str) (ns : List Str) (vs : List D) | ownD (ks : List Key) (vs : List D) | ownT (ks : List (List Key)) (vs : List D)
  deriving Inhabited
abbrev Env := List Sl
def Sl.isOwn : Sl → Bool
  | .own _ => true
  | .ownI _ _ _ => true
  | .ownD _ _ => true
  | .ownT _ _ => true
  | _ => false
def SlR (mg : Glob) (N : Prot) (c : List Addr) (H : Hp) : Sl → Option V → Prop
  | .un, _ => True
  | .val d, o => ∃ v, o = some v ∧ Rep mg N c H v d
  | .own xs, o => ∃ a vs, o = some (.ref a) ∧ H a = some (.lst vs) ∧ RepL mg N c H vs xs
  | .ownI cn ns ds, o => ∃ a C dx fs, o = some (.ref a) ∧ mg.mg cn = some (.ref C) ∧ H a = some (.ins C dx fs) ∧ fs.map (·.1) = ns ∧ RepL mg N c H (fs.map (·.2)) ds
  | .ownD ks ds, o => ∃ a kvs, o = some (.ref a) ∧ H a = some (.dK kvs) ∧ kvs.map (·.1) = ks ∧ RepL mg N c H (kvs.map (·.2)) ds
  | .ownT ks ds, o => ∃ a kvs, o = some (.ref a) ∧ H a = some (.dT kvs) ∧ kvs.map (·.1) = ks ∧ RepL mg N c H (kvs.map (·.2)) ds
/-- the entry of a def -/
structure En where
  H0 : Hp
  N0 : Prot
  c0 : List Addr
  self : Option Addr
structure Rel (mg : Glob) (E : En) (N : Prot) (c : List Addr) (env : Env) (st : Sto) (σ : L2.St) (H : Hp) : Prop where
  len : σ.length = env.length
  sl : ∀ (i : Nat) s, env[i]? = some s → SlR mg N c H s (σ[i]?.join)
  own : ∀ (i : Nat) s a, env[i]? = some s → s.isOwn = true → σ[i]? = some (some (.ref a)) → N a ∧ a ∉ c ∧ E.H0 a = none
  inj : ∀ (i j : Nat) s s' a, env[i]? = some s → s.isOwn = true → env[j]? = some s' → s'.isOwn = true → σ[i]? = some (some (.ref a)) → σ[j]? = some (some (.ref a)) → i = j
  wd : Wd mg N c H st
  n0 : ∀ a, E.N0 a → N a
  t0 : ∀ a, E.N0 a → E.H0 a ≠ none
  base : ∀ a o, E.H0 a = some o → a ∉ c → H a = some o
  pre : ∀ (k : Nat) a, E.c0[k]? = some a → c[k]? = some a
  newc : ∀ a, a ∈ c → a ∈ E.c0 ∨ E.H0 a = none
  slf : ∀ (i : Nat) cn ns ds a, env[i]? = some (.ownI cn ns ds) → σ[i]? = some (some (.ref a)) → E.self = some a
section
variable {mg : Glob} {E : En} {N N' : Prot} {c c' : List Addr} {H H' : Hp} {st st' : Sto} {env : Env} {σ : L2.St}
theorem join_some {α : Type} {o : Option (Option α)} {v : α} (h : o.join = some v) : o = some (some v) := by
  cases o with
  | none => cases h
  | some x => cases x with
    | none => cases h
    | some y => cases h; rfl
theorem SlR.ex (x : Ex N c H N' c' H') (W : Wd mg N c H st) {s : Sl} {o : Option V} (h : SlR mg N c H s o) (hn : s.isOwn = true → ∀ a, o = some (.ref a) → a ∉ c) : SlR mg N' c' H' s o := by
  cases s with
  | un => trivial
  | val d => obtain ⟨v, e, r⟩ := h; exact ⟨v, e, r.tr (x.tr W)⟩
  | own xs => obtain ⟨a, vs, e, ha, r⟩ := h; exact ⟨a, vs, e, x.keep _ _ ha (hn rfl a e), r.tr (x.tr W)⟩
  | ownI cn ns ds => obtain ⟨a, C, dx, fs, e, hc, ha, hm, r⟩ := h; exact ⟨a, C, dx, fs, e, hc, x.keep _ _ ha (hn rfl a e), hm, r.tr (x.tr W)⟩
  | ownD ks ds => obtain ⟨a, kvs, e, ha, hm, r⟩ := h; exact ⟨a, kvs, e, x.keep _ _ ha (hn rfl a e), hm, r.tr (x.tr W)⟩
  | ownT ks ds => obtain ⟨a, kvs, e, ha, hm, r⟩ := h; exact ⟨a, kvs, e, x.keep _ _ ha (hn rfl a e), hm, r.tr (x.tr W)⟩
theorem SlR.tracked {s : Sl} {o : Option V} (h : SlR mg N c H s o) (hs : s.isOwn = true) : ∃ a u, o = some (.ref a) ∧ H a = some u := by
  cases s with
  | un => cases hs
  | val d => cases hs
  | own xs => obtain ⟨a, vs, e, ha, r⟩ := h; exact ⟨a, _, e, ha⟩
  | ownI cn ns ds => obtain ⟨a, C, dx, fs, e, hc, ha, hm, r⟩ := h; exact ⟨a, _, e, ha⟩
  | ownD ks ds => obtain ⟨a, kvs, e, ha, hm, r⟩ := h; exact ⟨a, _, e, ha⟩
  | ownT ks ds => obtain ⟨a, kvs, e, ha, hm, r⟩ := h; exact ⟨a, _, e, ha⟩
theorem Rel.ex (R : Rel mg E N c env st σ H) (x : Ex N c H N' c' H') (W' : Wd mg N' c' H' st') : Rel mg E N' c' env st' σ H' where
  len := R.len
  sl := fun i s h => (R.sl i s h).ex x R.wd fun hs a e => (R.own i s a h hs (join_some e)).2.1
  own := fun i s a h hs e => by
    obtain ⟨n, nc, z⟩ := R.own i s a h hs e
    obtain ⟨b, u, eb, hb⟩ := (R.sl i s h).tracked hs
    rw [e] at eb
    cases eb
    exact ⟨x.mono a n, x.nc R.wd hb nc, z⟩
  inj := R.inj
  wd := W'
  n0 := fun a h => x.mono a (R.n0 a h)
  t0 := R.t0
  base := fun a o h n => by
    have nc : a ∉ c := fun z => n (by
      obtain ⟨k, hk⟩ := List.getElem?_of_mem z
      exact List.mem_of_getElem? (x.pre k a hk))
    exact x.keep a o (R.base a o h nc) nc
  pre := fun k a h => x.pre k a (R.pre k a h)
  newc := fun a h => (x.newc a h).elim (R.newc a) fun e => by
    cases q : E.H0 a with
    | none => exact .inr rfl
    | some o =>
      by_cases nc : a ∈ c
      · exact absurd e (R.wd.trk a (R.wd.cn a nc))
      · rw [R.base a o q nc] at e; cases e
  slf := R.slf
end

/-! ### readings by plain functions -/
abbrev Fx (α : Type) := Env → Sto → Option (α × Sto)
abbrev SE := Fx D
/-- what is told of a value: by the state ahead and the state behind -/
abbrev Told (α : Type) := Prot → List Addr → Hp → Prot → List Addr → Hp → V → α → Prop
def tX {α : Type} (mg : Glob) (R : Told α) (f : Fx α) : TE := fun σ H Q => ∃ (E : En) (N : Prot) (c : List Addr) (env : Env) (st : Sto) (d : α) (st' : Sto), Rel mg E N c env st σ H ∧ f env st = some (d, st') ∧
  ∀ v N' c' H', Ex N c H N' c' H' → Wd mg N' c' H' st' → R N c H N' c' H' v d → Q v H'
/-- data -/
def RE (mg : Glob) : Told D := fun _ _ _ N' c' H' v d => Rep mg N' c' H' v d
/-- data, or a list of the frame's own, looked at -/
def RepT (mg : Glob) (N : Prot) (c : List Addr) (H : Hp) (v : V) (d : D) : Prop :=
  Rep mg N c H v d ∨ ∃ a vs xs, v = .ref a ∧ d = .lst xs ∧ H a = some (.lst vs) ∧ a ∉ c ∧ RepL mg N c H vs xs
def RP (mg : Glob) : Told D := fun _ _ _ N' c' H' v d => RepT mg N' c' H' v d
/-- a new list, protected -/
def RN (mg : Glob) : Told (List D) := fun _ _ H N' c' H' v xs => ∃ p vs, v = .ref p ∧ H p = none ∧ N' p ∧ p ∉ c' ∧ H' p = some (.lst vs) ∧ RepL mg N' c' H' vs xs
abbrev tE (mg : Glob) (f : SE) : TE := tX mg (RE mg) f
abbrev tP (mg : Glob) (f : SE) : TE := tX mg (RP mg) f
abbrev tL (mg : Glob) (f : Fx (List D)) : TE := tX mg (RN mg) f
/-- the list as data -/
def eL (f : Fx (List D)) : SE := fun env st => (f env st).map fun p => (.lst p.1, p.2)

section
variable {X : Cx} {e : Expr}
theorem pe_weak {t t' : TE} (h : PE X e t) (w : ∀ σ H Q, t' σ H Q → t σ H Q) : PE X e t' := ⟨fun pins s σ H Q I q => h.run pins s σ H Q I (w σ H Q q)⟩
theorem pt_weak {t t' : TT} (h : PT X e t) (w : ∀ σ H Q, t' σ H Q → t σ H Q) : PT X e t' := ⟨fun pins s σ H Q I q => h.run pins s σ H Q I (w σ H Q q)⟩
theorem pa_weak {es : List Expr} {t t' : TA} (h : PA X es t) (w : ∀ σ H Q, t' σ H Q → t σ H Q) : PA X es t' := ⟨fun pos pins s σ H Q I q => h.run pos pins s σ H Q I (w σ H Q q)⟩
theorem ps_weak {s : Stmt} {t t' : TS} (h : PS X s t) (w : ∀ D σ H, t' D σ H → t D σ H) : PS X s t' := ⟨fun pins s σ H D I q => h.run pins s σ H D I (w D σ H q)⟩
theorem pss_weak {s : List Stmt} {t t' : TS} (h : PSs X s t) (w : ∀ D σ H, t' D σ H → t D σ H) : PSs X s t' := ⟨fun pins s σ H D I q => h.run pins s σ H D I (w D σ H q)⟩
theorem pi_weak {tg it : Expr} {t t' : TI} (h : PI X tg it t) (w : ∀ σ H R, t' σ H R → t σ H R) : PI X tg it t' := ⟨fun pins s σ H R I q => h.run pins s σ H R I (w σ H R q)⟩
end
section
variable {mg : Glob} {N N' : Prot} {c c' : List Addr} {H H' : Hp} {st st' : Sto} {v : V} {d : D} {X : Cx} {e : Expr}
theorem RepT.ex (x : Ex N c H N' c' H') (W : Wd mg N c H st) (h : RepT mg N c H v d) : RepT mg N' c' H' v d := by
  rcases h with h | ⟨a, vs, xs, rfl, rfl, ha, nc, r⟩
  · exact .inl (h.tr (x.tr W))
  · exact .inr ⟨a, vs, xs, rfl, rfl, x.keep _ _ ha nc, x.nc W ha nc, r.tr (x.tr W)⟩
/-- data may be looked at -/
theorem d_peek {f : SE} (h : PE X e (tE mg f)) : PE X e (tP mg f) := pe_weak h fun σ H Q ⟨E, N, c, env, st, d, st', R, q, k⟩ => ⟨E, N, c, env, st, d, st', R, q, fun v N' c' H' x W r => k v N' c' H' x W (.inl r)⟩
/-- a new list is data: protected no more -/
theorem RN.give {xs : List D} (W : Wd mg N c H st) (x : Ex N c H N' c' H') (W' : Wd mg N' c' H' st') (h : RN mg N c H N' c' H' v xs) : ∃ N'', Ex N c H N'' c' H' ∧ Wd mg N'' c' H' st' ∧ Rep mg N'' c' H' v (.lst xs) := by
  obtain ⟨p, vs, rfl, hp, np, nc, hv, r⟩ := h
  have less : ∀ a, (N' a ∧ a ≠ p) → N' a := fun a z => z.1
  refine ⟨fun a => N' a ∧ a ≠ p, ⟨x.keep, fun a z => x.new a z.1, fun a z => ⟨x.mono a z, fun e => W.trk a z (by rw [e]; exact hp)⟩, x.pre, x.newc⟩, W'.less less fun a z => ⟨W'.cn a z, fun e => nc (e ▸ z)⟩, ?_⟩
  exact .lst hv (fun z => z.2 rfl) (r.tr (Tr.less less))
theorem d_give {f : Fx (List D)} (h : PE X e (tL mg f)) : PE X e (tE mg (eL f)) := pe_weak h fun σ H Q ⟨E, N, c, env, st, d, st', R, q, k⟩ => by
  unfold eL at q
  cases qf : f env st with
  | none => rw [qf] at q; cases q
  | some p =>
    obtain ⟨xs, s1⟩ := p
    rw [qf] at q
    cases q
    refine ⟨E, N, c, env, st, xs, _, R, qf, fun v N' c' H' x W r => ?_⟩
    obtain ⟨N'', x2, W2, r2⟩ := r.give R.wd x W
    exact k v N'' c' H' x2 W2 r2
end
end LW

/-! LwB: expressions: names, constants, operators, comparisons, tests, displays, subscripts, slices. -/
namespace LW
open PySem L2 PyProof.Rows

/-- what is told can be carried back to an earlier state -/
def Back {α : Type} (mg : Glob) (R : Told α) : Prop := ∀ {N : Prot} {c : List Addr} {H : Hp} {st : Sto} {N1 : Prot} {c1 : List Addr} {H1 : Hp} {st1 : Sto} {N' : Prot} {c' : List Addr} {H' : Hp} {v : V} {d : α},
  Wd mg N c H st → Ex N c H N1 c1 H1 → Wd mg N1 c1 H1 st1 → R N1 c1 H1 N' c' H' v d → R N c H N' c' H' v d
section
variable {mg : Glob}
theorem back_E : Back mg (RE mg) := fun _ _ _ h => h
theorem back_N : Back mg (RN mg) := fun W x W1 ⟨p, vs, e, hp, r⟩ => ⟨p, vs, e, x.free W W1 hp, r⟩
end

/-! ### names and constants -/
def eVar (i : Nat) : SE := fun env st => match env[i]? with
  | some (.val d) => some (d, st)
  | _ => none
def ePeek (i : Nat) : SE := fun env st => match env[i]? with
  | some (.own xs) => some (.lst xs, st)
  | some (.val d) => some (d, st)
  | _ => none
def eC (d : D) : SE := fun _ st => some (d, st)
section
variable {mg : Glob} {X : Cx} {x : Str} {pos : Pos} {i : Nat}
theorem r_var {σ : L2.St} {H : Hp} {Q : VK} (h : tE mg (eVar i) σ H Q) : tVar i σ H Q := by
  obtain ⟨E, N, c, env, st, d, st', R, q, k⟩ := h
  unfold eVar at q
  split at q
  · rename_i d0 he
    cases q
    obtain ⟨v, e, r⟩ := R.sl i _ he
    exact ⟨v, join_some e, k v N c H Ex.refl R.wd r⟩
  · cases q
theorem d_var (i : Nat) {x : Str} {pos : Pos} (hN : X.N[i]? = some x := by rfl) (hv : Vis X.env.scope x := by first | exact Or.inl rfl | exact Or.inr (Or.inl rfl) | exact Or.inr (Or.inr rfl)) (hd : (x == ("__debug__" : Str)) = false := by decide)
    (hcd : (x == ("__classdict__" : Str)) = false := by decide) : PE X (.Name x pos) (tE mg (eVar i)) := pe_weak (pe_var hN hv hd hcd) fun _ _ _ h => r_var h
theorem r_peek {σ : L2.St} {H : Hp} {Q : VK} (h : tP mg (ePeek i) σ H Q) : tVar i σ H Q := by
  obtain ⟨E, N, c, env, st, d, st', R, q, k⟩ := h
  unfold ePeek at q
  split at q
  · rename_i xs he
    cases q
    obtain ⟨a, vs, e, ha, r⟩ := R.sl i _ he
    obtain ⟨n1, n2, n3⟩ := R.own i _ a he rfl (join_some e)
    exact ⟨.ref a, join_some e, k _ N c H Ex.refl R.wd (.inr ⟨a, vs, xs, rfl, rfl, ha, n2, r⟩)⟩
  · rename_i d0 he
    cases q
    obtain ⟨v, e, r⟩ := R.sl i _ he
    exact ⟨v, join_some e, k v N c H Ex.refl R.wd (.inl r)⟩
  · cases q
theorem d_look (i : Nat) {x : Str} {pos : Pos} (hN : X.N[i]? = some x := by rfl) (hv : Vis X.env.scope x := by first | exact Or.inl rfl | exact Or.inr (Or.inl rfl) | exact Or.inr (Or.inr rfl)) (hd : (x == ("__debug__" : Str)) = false := by decide)
    (hcd : (x == ("__classdict__" : Str)) = false := by decide) : PE X (.Name x pos) (tP mg (ePeek i)) := pe_weak (pe_var hN hv hd hcd) fun _ _ _ h => r_peek h
theorem r_c {v : V} {d : D} (hr : ∀ N c H, Rep mg N c H v d) {σ : L2.St} {H : Hp} {Q : VK} (h : tE mg (eC d) σ H Q) : tC v σ H Q := by
  obtain ⟨E, N, c, env, st, d', st', R, q, k⟩ := h
  cases q
  exact k v N c H Ex.refl R.wd (hr N c H)
theorem d_int {i : Int} {j pos} : PE X (.Constant (.int i) j pos) (tE mg (eC (.int i))) := pe_weak pe_int fun _ _ _ h => r_c (fun _ _ _ => .int i) h
theorem d_bl {b : Bool} {j pos} : PE X (.Constant (.bool b) j pos) (tE mg (eC (.bl b))) := pe_weak pe_bl fun _ _ _ h => r_c (fun _ _ _ => .bl b) h
theorem d_non {j pos} : PE X (.Constant .none j pos) (tE mg (eC .non)) := pe_weak pe_non fun _ _ _ h => r_c (fun _ _ _ => .non) h
theorem d_str {x : Str} {j pos} : PE X (.Constant (.str x) j pos) (tE mg (eC (.str x))) := pe_weak pe_str fun _ _ _ h => r_c (fun _ _ _ => .str x) h
/-- a constant of the module, a built-in class -/
theorem d_glob {x : Str} {v : V} {d : D} {u : Value} (hg : Gl X x) (hm : X.mg x = some u) (r : RelV v u) (hr : ∀ N c H, Rep mg N c H v d) (hd : (x == ("__debug__" : Str)) = false := by decide) : PE X (.Name x pos) (tE mg (eC d)) :=
  pe_weak (pe_glob hg hm r hd) fun _ _ _ h => r_c hr h
theorem d_ty {x : Str} {n : String} (hg : Gl X x) (hm : X.mg x = none) (hv : bootBuiltins x = some (.type n)) (hn : x ≠ "__name__" := by decide) (hd : (x == ("__debug__" : Str)) = false := by decide) : PE X (.Name x pos) (tE mg (eC (.ty n))) :=
  pe_weak (pe_bltn (v := .ty n) hg hm hv rfl hn hd) fun _ _ _ h => r_c (fun _ _ _ => .ty n) h
end

/-! ### what stands behind a value -/
/-- a list that may be joined to others; a list that may be read -/
def lstM (st : Sto) : D → Option (List D)
  | .lst xs => some xs
  | .cell k => lcG st k
  | _ => none
def lstR (st : Sto) : D → Option (List D)
  | .fro xs => some xs
  | d => lstM st d
section
variable {mg : Glob} {N : Prot} {c : List Addr} {H : Hp} {st : Sto} {u : V} {x : D}
theorem RepT.non (h : RepT mg N c H u .non) : u = .non := by
  rcases h with h | ⟨_, _, _, _, e, _⟩
  · cases h; rfl
  · cases e
theorem RepT.bl {b : Bool} (h : RepT mg N c H u (.bl b)) : u = .bl b := by
  rcases h with h | ⟨_, _, _, _, e, _⟩
  · cases h; rfl
  · cases e
theorem RepT.int {i : Int} (h : RepT mg N c H u (.int i)) : u = .int i := by
  rcases h with h | ⟨_, _, _, _, e, _⟩
  · cases h; rfl
  · cases e
theorem RepT.str {z : Str} (h : RepT mg N c H u (.str z)) : u = .str z := by
  rcases h with h | ⟨_, _, _, _, e, _⟩
  · cases h; rfl
  · cases e
theorem RepT.ty {n : String} (h : RepT mg N c H u (.ty n)) : u = .ty n := by
  rcases h with h | ⟨_, _, _, _, e, _⟩
  · cases h; rfl
  · cases e
theorem RepT.tup {xs : List D} (h : RepT mg N c H u (.tup xs)) : ∃ a vs, u = .ref a ∧ H a = some (.tup vs) ∧ RepL mg N c H vs xs := by
  rcases h with h | ⟨_, _, _, _, e, _⟩
  · cases h with
    | tup h r => exact ⟨_, _, rfl, h, r⟩
  · cases e
theorem RepT.lst {xs : List D} (W : Wd mg N c H st) (h : RepT mg N c H u x) (e : lstM st x = some xs) : ∃ a vs, u = .ref a ∧ H a = some (.lst vs) ∧ RepL mg N c H vs xs := by
  rcases h with h | ⟨a, vs, ys, rfl, rfl, ha, _, r⟩
  · cases h with
    | lst h n r => cases e; exact ⟨_, _, rfl, h, r⟩
    | cell hc =>
      obtain ⟨vs, ha, r⟩ := W.lstC hc e
      exact ⟨_, _, rfl, ha, r⟩
    | _ => cases e
  · cases e
    exact ⟨a, vs, rfl, ha, r⟩
theorem RepT.read {xs : List D} (W : Wd mg N c H st) (h : RepT mg N c H u x) (e : lstR st x = some xs) : ∃ a vs, u = .ref a ∧ SqL mg.K H a vs ∧ RepL mg N c H vs xs := by
  by_cases hf : ∃ ys, x = .fro ys
  · obtain ⟨ys, rfl⟩ := hf
    cases e
    rcases h with h | ⟨_, _, _, _, e, _⟩
    · cases h with
      | fro h n r => exact ⟨_, _, rfl, .inl (.inr ⟨_, h⟩), r⟩
      | kro h => exact ⟨_, _, rfl, h H, RepL.ints _⟩
    · cases e
  · have e2 : lstM st x = some xs := by
      cases x <;> first | exact e | exact absurd ⟨_, rfl⟩ hf
    obtain ⟨a, vs, e1, ha, r⟩ := RepT.lst W h e2
    exact ⟨a, vs, e1, SqL.of ha, r⟩
end

/-! ### two operands -/
def eOp {α : Type} (op : D → D → Sto → Option α) (a b : SE) : Fx α := fun env st => match a env st with
  | none => none
  | some (x, s1) => match b env s1 with
    | none => none
    | some (y, s2) => match op x y s2 with
      | none => none
      | some d => some (d, s2)
def OpOk {α : Type} (mg : Glob) (R : Told α) (r : R2) (op : D → D → Sto → Option α) : Prop := ∀ (N : Prot) (c : List Addr) (H : Hp) (st : Sto) (u v : V) (x y : D) (d : α) (Q : VK), Wd mg N c H st → RepT mg N c H u x → RepT mg N c H v y → op x y st = some d →
  (∀ w N' c' H', Ex N c H N' c' H' → Wd mg N' c' H' st → R N c H N' c' H' w d → Q w H') → r u v H Q
def orO {α : Type} (f g : D → D → Sto → Option α) : D → D → Sto → Option α := fun x y st => match f x y st with
  | some d => some d
  | none => g x y st
def asL (f : D → D → Sto → Option (List D)) : D → D → Sto → Option D := fun x y st => match f x y st with
  | some xs => some (.lst xs)
  | none => none
section
variable {α : Type} {mg : Glob} {R : Told α} {r r' : R2} {op op' : D → D → Sto → Option α} {fa fb : SE} {X : Cx} {a b : Expr} {pos : Pos}
theorem r_op (hk : OpOk mg R r op) (hb : Back mg R) {σ : L2.St} {H : Hp} {Q : VK} (h : tX mg R (eOp op fa fb) σ H Q) : tOp r (tP mg fa) (tP mg fb) σ H Q := by
  obtain ⟨E, N, c, env, st, d, st', R0, q, k⟩ := h
  unfold eOp at q
  split at q
  · cases q
  · rename_i x s1 q1
    split at q
    · cases q
    · rename_i y s2 q2
      split at q
      · cases q
      · rename_i d0 q3
        cases q
        refine ⟨E, N, c, env, st, x, s1, R0, q1, fun v1 N1 c1 H1 x1 W1 p1 => ?_⟩
        refine ⟨E, N1, c1, env, s1, y, _, R0.ex x1 W1, q2, fun v2 N2 c2 H2 x2 W2 p2 => ?_⟩
        have x12 := x1.trans x2 R0.wd
        refine hk N2 c2 H2 _ v1 v2 x y _ Q W2 (RepT.ex x2 W1 p1) p2 q3 fun w N' c' H' x3 W3 p3 => ?_
        exact k w N' c' H' (x12.trans x3 R0.wd) W3 (hb R0.wd x12 W2 p3)
theorem OpOk.or (h : OpOk mg R r op) (h' : OpOk mg R r' op') : OpOk mg R (fun x y H Q => r x y H Q ∨ r' x y H Q) (orO op op') := by
  intro N c H st u v x y d Q W p1 p2 e k
  unfold orO at e
  split at e
  · rename_i d0 e0
    cases e
    exact .inl (h N c H st u v x y _ Q W p1 p2 e0 k)
  · exact .inr (h' N c H st u v x y d Q W p1 p2 e k)
theorem d_bin {o : Operator} (ho : OpR X (binaryOp o) r) (hk : OpOk mg R r op) (hb : Back mg R) (ha : PE X a (tP mg fa)) (hb' : PE X b (tP mg fb)) : PE X (.BinOp a o b pos) (tX mg R (eOp op fa fb)) :=
  pe_weak (pe_op ho ha hb') fun _ _ _ h => r_op hk hb h
theorem d_cmp {o : CmpOp} (ho : OpR X (compareOp o) r) (hk : OpOk mg R r op) (hb : Back mg R) (ha : PE X a (tP mg fa)) (hb' : PE X b (tP mg fb)) (hm : behindInMarks o b = false) : PE X (.Compare a [o] [b] pos) (tX mg R (eOp op fa fb)) :=
  pe_weak (pe_cmpR ho ha hb' hm) fun _ _ _ h => r_op hk hb h
end

/-! ### whole numbers -/
def iOp (C : Int → Int → Bool) (g : Int → Int → D) : D → D → Sto → Option D := fun x y _ => match x, y with
  | .int i, .int j => if C i j = true then some (g i j) else none
  | _, _ => none
theorem ok_I {mg : Glob} {C : Int → Int → Bool} {P : Int → Int → Prop} {g : Int → Int → D} {gv : Int → Int → V} (hC : ∀ i j, C i j = true → P i j) (hg : ∀ i j N c H, Rep mg N c H (gv i j) (g i j)) : OpOk mg (RE mg) (rI P gv) (iOp C g) := by
  intro N c H st u v x y d Q W p1 p2 e k
  unfold iOp at e
  split at e
  · rename_i i j
    split at e
    · rename_i hc
      cases e
      exact ⟨i, j, p1.int, p2.int, hC i j hc, k _ N c H Ex.refl W (hg i j N c H)⟩
    · cases e
  · cases e
theorem ok_I0 {mg : Glob} {g : Int → Int → D} {gv : Int → Int → V} (hg : ∀ i j N c H, Rep mg N c H (gv i j) (g i j)) : OpOk mg (RE mg) (rI0 gv) (iOp (fun _ _ => true) g) := by
  intro N c H st u v x y d Q W p1 p2 e k
  unfold iOp at e
  split at e
  · rename_i i j
    split at e
    · cases e
      exact ⟨i, j, p1.int, p2.int, k _ N c H Ex.refl W (hg i j N c H)⟩
    · cases e
  · cases e
def mulC (i j : Int) : Bool := (decide (-(2 ^ 64) < i) && decide (i < 2 ^ 64)) || (decide (-(2 ^ 64) < j) && decide (j < 2 ^ 64)) || decide ((Builtin.Int.intBits i : Int) + (Builtin.Int.intBits j : Int) ≤ 134217728)
def divC (_ j : Int) : Bool := decide (0 < j) && decide (j.natAbs.log2 < 9000)
def modC (_ j : Int) : Bool := decide (0 < j)
def powC (i j : Int) : Bool := decide (0 ≤ j) && decide ((Builtin.Int.intBits i : Int) * j ≤ 134217728)
theorem mulC_ok {i j : Int} (h : mulC i j = true) : IntMulOk i j := by
  unfold mulC at h
  rw [Bool.or_eq_true, Bool.or_eq_true, Bool.and_eq_true, Bool.and_eq_true] at h
  rcases h with (h | h) | h
  · exact CMul.ok (.inl ⟨of_decide_eq_true h.1, of_decide_eq_true h.2⟩)
  · exact CMul.ok (.inr ⟨of_decide_eq_true h.1, of_decide_eq_true h.2⟩)
  · exact CMulX.ok (show (Builtin.Int.intBits i : Int) + (Builtin.Int.intBits j : Int) ≤ 134217728 from of_decide_eq_true h)
theorem divC_ok {i j : Int} (h : divC i j = true) : CDivW i j := by
  unfold divC at h
  rw [Bool.and_eq_true] at h
  exact ⟨of_decide_eq_true h.1, of_decide_eq_true h.2⟩
section
variable {X : Cx} {mg : Glob}
theorem op_mulA : OpR X (binaryOp .Mult) (rI (fun i j => mulC i j = true) fun i j => .int (i * j)) := opI fun _ _ _ _ _ _ _ hc q => mul_int q (mulC_ok hc)
theorem op_powA : OpR X (binaryOp .Pow) (rI (fun i j => powC i j = true) fun i j => .int (i ^ j.toNat)) := opI fun i j _ _ _ _ _ hc q => by
  have hc : powC i j = true := hc
  unfold powC at hc
  rw [Bool.and_eq_true] at hc
  exact pow_int (of_decide_eq_true hc.1) (of_decide_eq_true hc.2) q
end
abbrev oSub := iOp (fun _ _ => true) fun i j => .int (i - j)
abbrev oMul := iOp mulC fun i j => .int (i * j)
abbrev oDiv := iOp divC fun i j => .int (i / j)
abbrev oMod := iOp modC fun i j => .int (i % j)
abbrev oPow := iOp powC fun i j => .int (i ^ j.toNat)
abbrev oLt := iOp (fun _ _ => true) fun i j => .bl (decide (i < j))
abbrev oLe := iOp (fun _ _ => true) fun i j => .bl (decide (i ≤ j))
abbrev oGt := iOp (fun _ _ => true) fun i j => .bl (decide (j < i))
abbrev oGe := iOp (fun _ _ => true) fun i j => .bl (decide (j ≤ i))
section
variable {X : Cx} {mg : Glob} {a b : Expr} {pos : Pos} {fa fb : SE}
theorem d_sub (ha : PE X a (tP mg fa)) (hb : PE X b (tP mg fb)) : PE X (.BinOp a .Sub b pos) (tE mg (eOp oSub fa fb)) := d_bin op_sub (ok_I0 fun i j _ _ _ => .int (i - j)) back_E ha hb
theorem d_mul (ha : PE X a (tP mg fa)) (hb : PE X b (tP mg fb)) : PE X (.BinOp a .Mult b pos) (tE mg (eOp oMul fa fb)) := d_bin op_mulA (ok_I (fun _ _ h => h) fun i j _ _ _ => .int (i * j)) back_E ha hb
theorem d_div (ha : PE X a (tP mg fa)) (hb : PE X b (tP mg fb)) : PE X (.BinOp a .FloorDiv b pos) (tE mg (eOp oDiv fa fb)) := d_bin op_fdivW (ok_I (fun _ _ h => divC_ok h) fun i j _ _ _ => .int (i / j)) back_E ha hb
theorem d_mod (ha : PE X a (tP mg fa)) (hb : PE X b (tP mg fb)) : PE X (.BinOp a .Mod b pos) (tE mg (eOp oMod fa fb)) := d_bin op_mod (ok_I (fun _ _ h => of_decide_eq_true h) fun i j _ _ _ => .int (i % j)) back_E ha hb
theorem d_pow (ha : PE X a (tP mg fa)) (hb : PE X b (tP mg fb)) : PE X (.BinOp a .Pow b pos) (tE mg (eOp oPow fa fb)) := d_bin op_powA (ok_I (fun _ _ h => h) fun i j _ _ _ => .int _) back_E ha hb
theorem d_gt (ha : PE X a (tP mg fa)) (hb : PE X b (tP mg fb)) : PE X (.Compare a [.Gt] [b] pos) (tE mg (eOp oGt fa fb)) := d_cmp op_gt (ok_I0 fun i j _ _ _ => .bl _) back_E ha hb (nomark _)
end

/-! ### adding -/
def oCat : D → D → Sto → Option (List D) := fun x y st => match lstM st x, lstM st y with
  | some xs, some ys => if xs.length + ys.length ≤ 1000000 then some (xs ++ ys) else none
  | _, _ => none
def oCatS : D → D → Sto → Option D := fun x y _ => match x, y with
  | .str s, .str t => if s.length + t.length ≤ 1000000 then some (.str (s ++ t)) else none
  | _, _ => none
def oCatT : D → D → Sto → Option D := fun x y _ => match x, y with
  | .tup xs, .tup ys => if xs.length + ys.length ≤ 1000000 then some (.tup (xs ++ ys)) else none
  | _, _ => none
theorem sz6 {n : Nat} (h : n ≤ 1000000) : n ≤ sizeLine := Nat.le_trans h (by decide)
section
variable {mg : Glob}
theorem RN.laid {N : Prot} {c : List Addr} {H : Hp} {st : Sto} {vs : List V} {xs : List D} {p : Addr} (W : Wd mg N c H st) (hp : H p = none) (r : RepL mg N c H vs xs) : RN mg N c H (fun a => N a ∨ a = p) c (upd H p (.lst vs)) (.ref p) xs :=
  ⟨p, vs, rfl, hp, .inr rfl, W.cnone hp, upd_same, r.tr ((Ex.laidN W hp).tr W)⟩
theorem Rep.laidT {N : Prot} {c : List Addr} {H : Hp} {st : Sto} {vs : List V} {xs : List D} {p : Addr} (W : Wd mg N c H st) (hp : H p = none) (r : RepL mg N c H vs xs) : Rep mg N c (upd H p (.tup vs)) (.ref p) (.tup xs) :=
  .tup upd_same (r.tr ((Ex.laid W hp).tr W))
theorem ok_cat : OpOk mg (RN mg) rCat oCat := by
  intro N c H st u v x y d Q W p1 p2 e k
  unfold oCat at e
  split at e
  · rename_i xs ys e1 e2
    split at e
    · rename_i hl
      cases e
      obtain ⟨a, vs, rfl, ha, r1⟩ := RepT.lst W p1 e1
      obtain ⟨b, us, rfl, hb, r2⟩ := RepT.lst W p2 e2
      refine ⟨a, b, vs, us, rfl, rfl, ha, hb, sz6 (by rw [r1.length, r2.length]; exact hl), fun p hp => ?_⟩
      exact k _ _ _ _ (Ex.laidN W hp) (W.laidN hp) (RN.laid W hp (r1.append r2))
    · cases e
  · cases e
theorem OpOk.give {r : R2} {op : D → D → Sto → Option (List D)} (h : OpOk mg (RN mg) r op) : OpOk mg (RE mg) r (asL op) := by
  intro N c H st u v x y d Q W p1 p2 e k
  unfold asL at e
  split at e
  · rename_i xs e0
    cases e
    refine h N c H st u v x y xs Q W p1 p2 e0 fun w N' c' H' x W' r => ?_
    obtain ⟨N'', x2, W2, r2⟩ := r.give W x W'
    exact k w N'' c' H' x2 W2 r2
  · cases e
theorem ok_catS : OpOk mg (RE mg) (fun x y H Q => ∃ i j, x = .str i ∧ y = .str j ∧ i.length + j.length ≤ sizeLine ∧ Q (.str (i ++ j)) H) oCatS := by
  intro N c H st u v x y d Q W p1 p2 e k
  unfold oCatS at e
  split at e
  · rename_i i j
    split at e
    · rename_i hl
      cases e
      exact ⟨i, j, p1.str, p2.str, sz6 hl, k _ N c H Ex.refl W (.str _)⟩
    · cases e
  · cases e
theorem ok_catT {K : PySem.W.Frag} : OpOk mg (RP mg) (rCatA K) oCatT := by
  intro N c H st u v x y d Q W p1 p2 e k
  unfold oCatT at e
  split at e
  · rename_i xs ys
    split at e
    · rename_i hl
      cases e
      obtain ⟨a, vs, rfl, ha, r1⟩ := p1.tup
      obtain ⟨b, us, rfl, hb, r2⟩ := p2.tup
      have l1 := r1.length
      have l2 := r2.length
      refine ⟨a, b, vs, us, rfl, rfl, SqT.of ha, SqT.of hb, sz6 (by omega), fun e0 => ?_, fun n1 e0 => ?_, fun n1 n2 p hp => ?_⟩
      · subst e0
        cases r1
        exact k _ N c H Ex.refl W p2
      · subst e0
        cases r2
        rw [List.append_nil] at k
        exact k _ N c H Ex.refl W p1
      · exact k _ _ _ _ (Ex.laid W hp) (W.laid hp) (.inl (Rep.laidT W hp (r1.append r2)))
    · cases e
  · cases e
theorem ok_catT' {K : PySem.W.Frag} : OpOk mg (RE mg) (rCatA K) oCatT := by
  intro N c H st u v x y d Q W p1 p2 e k
  refine ok_catT N c H st u v x y d Q W p1 p2 e fun w N' c' H' x W' r => k w N' c' H' x W' ?_
  have : ∃ zs, d = .tup zs := by
    unfold oCatT at e
    split at e
    · split at e
      · cases e; exact ⟨_, rfl⟩
      · cases e
    · cases e
  obtain ⟨zs, rfl⟩ := this
  rcases r with r | ⟨_, _, _, _, e, _⟩
  · exact r
  · cases e
end
/-- x + y as data: ints, texts, lists, tuples -/
abbrev oAdd : D → D → Sto → Option D := orO (iOp (fun _ _ => true) fun i j => .int (i + j)) (orO oCatS (orO (asL oCat) oCatT))
section
variable {X : Cx} {mg : Glob} {a b : Expr} {pos : Pos} {fa fb : SE}
theorem d_add (ha : PE X a (tP mg fa)) (hb : PE X b (tP mg fb)) : PE X (.BinOp a .Add b pos) (tE mg (eOp oAdd fa fb)) :=
  d_bin (OpR.or op_add (OpR.or op_add_str (OpR.or op_cat op_catA))) (OpOk.or (ok_I0 fun i j _ _ _ => .int (i + j)) (OpOk.or ok_catS (OpOk.or ok_cat.give ok_catT'))) back_E ha hb
end
end LW

/-! LwC: equality, is None, in; tests, and, or, not, if; argument lists, displays; subscripts, slices. -/
namespace LW
open PySem L2 PyProof.Rows

/-! ### equality of data -/
def mapO {α β : Type} (f : α → Option β) : List α → Option (List β)
  | [] => some []
  | x :: r => match f x with
    | none => none
    | some y => match mapO f r with
      | none => none
      | some ys => some (y :: ys)
/-- data as the library's data: no instances, no dicts; n: how deep -/
def toPy : Nat → Sto → D → Option PyData
  | 0, _, _ => none
  | n + 1, st, d => match d with
    | .non => some .none
    | .bl b => some (.bool b)
    | .int i => some (.int i)
    | .str x => if PyData.strOk x = true then some (.str x) else none
    | .tup xs => match mapO (toPy n st) xs with
      | some ps => some (.tuple ps)
      | none => none
    | .lst xs => match mapO (toPy n st) xs with
      | some ps => some (.list ps)
      | none => none
    | .fro xs => match mapO (toPy n st) xs with
      | some ps => some (.list ps)
      | none => none
    | .cell k => match lcG st k with
      | none => none
      | some xs => match mapO (toPy n st) xs with
        | some ps => some (.list ps)
        | none => none
    | _ => none
theorem depthAll_le {n : Nat} {f : D → Option PyData} (h : ∀ x p, f x = some p → p.depth ≤ n ∧ p.canLay0 = true) : ∀ (xs : List D) (ps : List PyData), mapO f xs = some ps → PyData.depthAll ps ≤ n ∧ PyData.canLayAll0 ps = true
  | [], ps, e => by
    cases e
    exact ⟨Nat.zero_le _, rfl⟩
  | x :: r, ps, e => by
    unfold mapO at e
    split at e
    · cases e
    · rename_i y hy
      split at e
      · cases e
      · rename_i ys hys
        cases e
        obtain ⟨h1, h2⟩ := h x y hy
        obtain ⟨h3, h4⟩ := depthAll_le h r ys hys
        refine ⟨?_, ?_⟩
        · show max y.depth (PyData.depthAll ys) ≤ n
          omega
        · show (y.canLay0 && PyData.canLayAll0 ys) = true
          rw [h2, h4]; rfl
theorem toPy_ok : ∀ (n : Nat) (st : Sto) (d : D) (p : PyData), toPy n st d = some p → p.depth ≤ n ∧ p.canLay0 = true := by
  intro n
  induction n with
  | zero => intro st d p e; cases e
  | succ n ih =>
    intro st d p e
    have hL := @depthAll_le n (toPy n st) (fun x p h => ih st x p h)
    unfold toPy at e
    split at e
    · cases e; exact ⟨Nat.zero_le _, rfl⟩
    · cases e; exact ⟨Nat.zero_le _, rfl⟩
    · cases e; exact ⟨Nat.zero_le _, rfl⟩
    · split at e
      · rename_i hs
        cases e; exact ⟨Nat.zero_le _, hs⟩
      · cases e
    · split at e
      · rename_i xs ps hp
        cases e
        obtain ⟨h1, h2⟩ := hL _ ps hp
        exact ⟨Nat.succ_le_succ h1, h2⟩
      · cases e
    · split at e
      · rename_i xs ps hp
        cases e
        obtain ⟨h1, h2⟩ := hL _ ps hp
        exact ⟨Nat.succ_le_succ h1, h2⟩
      · cases e
    · split at e
      · rename_i xs ps hp
        cases e
        obtain ⟨h1, h2⟩ := hL _ ps hp
        exact ⟨Nat.succ_le_succ h1, h2⟩
      · cases e
    · split at e
      · cases e
      · split at e
        · rename_i xs hx ps hp
          cases e
          obtain ⟨h1, h2⟩ := hL _ ps hp
          exact ⟨Nat.succ_le_succ h1, h2⟩
        · cases e
    · cases e
theorem toPy_shaped {st : Sto} {d : D} {p : PyData} (h : toPy 60 st d = some p) : SeqAt.shaped p = true := by
  obtain ⟨h1, h2⟩ := toPy_ok 60 st d p h
  unfold SeqAt.shaped
  rw [h2, decide_eq_true (show p.depth ≤ 64 by omega)]
  rfl
section
variable {mg : Glob} {N : Prot} {c : List Addr} {H : Hp} {st : Sto}
theorem dp_all {n : Nat} (h : ∀ (d : D) (v : V) (p : PyData), Rep mg N c H v d → toPy n st d = some p → Dp mg.K H v p) : ∀ (xs : List D) (vs : List V) (ps : List PyData), RepL mg N c H vs xs → mapO (toPy n st) xs = some ps → DpAll mg.K H vs ps
  | [], _, ps, .nil, e => by cases e; exact .nil
  | x :: r, _, ps, .cons hv t, e => by
    unfold mapO at e
    split at e
    · cases e
    · rename_i y hy
      split at e
      · cases e
      · rename_i ys hys
        cases e
        exact .cons (h _ _ _ hv hy) (dp_all h r _ ys t hys)
theorem dp_of (W : Wd mg N c H st) : ∀ (n : Nat) (d : D) (v : V) (p : PyData), Rep mg N c H v d → toPy n st d = some p → Dp mg.K H v p := by
  intro n
  induction n with
  | zero => intro d v p _ e; cases e
  | succ n ih =>
    intro d v p h e
    unfold toPy at e
    split at e
    · cases e; cases h; exact .non
    · cases e; cases h; exact .bl _
    · cases e; cases h; exact .int _
    · split at e
      · cases e; cases h; exact .str _
      · cases e
    · split at e
      · rename_i ps hp
        cases e
        cases h with
        | tup ha r => exact .tup (SqT.of ha) (dp_all ih _ _ _ r hp)
      · cases e
    · split at e
      · rename_i ps hp
        cases e
        cases h with
        | lst ha _ r => exact .lst (SqL.of ha) (dp_all ih _ _ _ r hp)
      · cases e
    · split at e
      · rename_i ps hp
        cases e
        cases h with
        | fro ha _ r => exact .lst (.inl (.inr ⟨_, ha⟩)) (dp_all ih _ _ _ r hp)
        | kro hq => exact .lst (hq H) (dp_all ih _ _ _ (RepL.ints _) hp)
      · cases e
    · split at e
      · cases e
      · rename_i xs hx
        split at e
        · rename_i ps hp
          cases e
          cases h with
          | cell hc =>
            obtain ⟨vs, ha, r⟩ := W.lstC hc hx
            exact .lst (SqL.of ha) (dp_all ih _ _ _ r hp)
        · cases e
    · cases e
theorem dp_T (W : Wd mg N c H st) {d : D} {v : V} {p : PyData} (h : RepT mg N c H v d) (e : toPy 60 st d = some p) : Dp mg.K H v p := by
  rcases h with h | ⟨a, vs, xs, rfl, rfl, ha, _, r⟩
  · exact dp_of W 60 d v p h e
  · unfold toPy at e
    dsimp only at e
    split at e
    · rename_i ps hp
      cases e
      exact .lst (SqL.of ha) (dp_all (dp_of W 59) _ _ _ r hp)
    · cases e
end
def oEq : D → D → Sto → Option D := fun x y st => match toPy 60 st x, toPy 60 st y with
  | some p, some q => some (.bl (PyData.eqv p q))
  | _, _ => none
def oNe : D → D → Sto → Option D := fun x y st => match toPy 60 st x, toPy 60 st y with
  | some p, some q => some (.bl (!PyData.eqv p q))
  | _, _ => none
theorem ok_eq {mg : Glob} : OpOk mg (RE mg) (rEqD mg.K) oEq := by
  intro N c H st u v x y d Q W p1 p2 e k
  unfold oEq at e
  split at e
  · rename_i p q e1 e2
    cases e
    exact ⟨p, q, dp_T W p1 e1, dp_T W p2 e2, toPy_shaped e1, toPy_shaped e2, k _ N c H Ex.refl W (.bl _)⟩
  · cases e
theorem ok_ne {mg : Glob} : OpOk mg (RE mg) (rNeD mg.K) oNe := by
  intro N c H st u v x y d Q W p1 p2 e k
  unfold oNe at e
  split at e
  · rename_i p q e1 e2
    cases e
    exact ⟨p, q, dp_T W p1 e1, dp_T W p2 e2, toPy_shaped e1, toPy_shaped e2, k _ N c H Ex.refl W (.bl _)⟩
  · cases e
/-- is None, is not None -/
def isNonD : D → Bool
  | .non => true
  | _ => false
def oIsN : D → D → Sto → Option D := fun x y _ => match y with
  | .non => some (.bl (isNonD x))
  | _ => none
def oNotN : D → D → Sto → Option D := fun x y _ => match y with
  | .non => some (.bl (!isNonD x))
  | _ => none
section
variable {X : Cx} {mg : Glob} {a b : Expr} {pos : Pos} {fa fb : SE}
theorem d_eq (hu : X.A.units + 64 < cLine) (ha : PE X a (tP mg fa)) (hb : PE X b (tP mg fb)) (hK : X.K = mg.K := by rfl) : PE X (.Compare a [.Eq] [b] pos) (tE mg (eOp oEq fa fb)) := d_cmp (hK ▸ op_eqD hu) ok_eq back_E ha hb (nomark _)
theorem d_ne (hu : X.A.units + 64 < cLine) (ha : PE X a (tP mg fa)) (hb : PE X b (tP mg fb)) (hK : X.K = mg.K := by rfl) : PE X (.Compare a [.NotEq] [b] pos) (tE mg (eOp oNe fa fb)) := d_cmp (hK ▸ op_neD hu) ok_ne back_E ha hb (nomark _)
end

/-! ### tests -/
abbrev SB := Fx Bool
def tT (mg : Glob) (f : SB) : TT := fun σ H Q => ∃ (E : En) (N : Prot) (c : List Addr) (env : Env) (st : Sto) (b : Bool) (st' : Sto), Rel mg E N c env st σ H ∧ f env st = some (b, st') ∧
  ∀ N' c' H', Ex N c H N' c' H' → Wd mg N' c' H' st' → Q b H'
def bOf (f : SE) : SB := fun env st => match f env st with
  | some (.bl b, s1) => some (b, s1)
  | _ => none
def bAnd (f g : SB) : SB := fun env st => match f env st with
  | none => none
  | some (true, s1) => g env s1
  | some (false, s1) => some (false, s1)
def bOr (f g : SB) : SB := fun env st => match f env st with
  | none => none
  | some (true, s1) => some (true, s1)
  | some (false, s1) => g env s1
def bNot (f : SB) : SB := fun env st => match f env st with
  | none => none
  | some (b, s1) => some (!b, s1)
section
variable {X : Cx} {mg : Glob} {e a b : Expr} {rest : List Expr} {pos : Pos} {fe fa fb : SE} {ta tb tc : SB}
theorem r_bOf {σ : L2.St} {H : Hp} {Q : Bool → Hp → Prop} (h : tT mg (bOf fe) σ H Q) : tB (tP mg fe) σ H Q := by
  obtain ⟨E, N, c, env, st, d, st', R, q, k⟩ := h
  unfold bOf at q
  split at q
  · rename_i b s1 q1
    cases q
    exact ⟨E, N, c, env, st, _, _, R, q1, fun v N' c' H' x W r => ⟨_, r.bl, k N' c' H' x W⟩⟩
  · cases q
theorem d_test (h : PE X e (tP mg fe)) (he : ∀ whole, isTrue e X.env whole = (do let v ← whole; standAt e.pos; holding [v] (truthy v)) := by intro _; rfl) : PT X e (tT mg (bOf fe)) := pt_weak (pt_val h he) fun _ _ _ q => r_bOf q
theorem pw_weak {t t' : TT} (h : PW X e t) (w : ∀ σ H Q, t' σ H Q → t σ H Q) : PW X e t' := ⟨fun wh pins s σ H Q I q => h.run wh pins s σ H Q I (w σ H Q q)⟩
theorem r_or {σ : L2.St} {H : Hp} {Q : Bool → Hp → Prop} (h : tT mg (bOr ta tb) σ H Q) : tOr (tT mg ta) (tT mg tb) σ H Q := by
  obtain ⟨E, N, c, env, st, d, st', R, q, k⟩ := h
  unfold bOr at q
  split at q
  · cases q
  · rename_i s1 q1
    cases q
    exact ⟨E, N, c, env, st, true, _, R, q1, fun N1 c1 H1 x1 W1 => iteT (k N1 c1 H1 x1 W1)⟩
  · rename_i s1 q1
    refine ⟨E, N, c, env, st, false, s1, R, q1, fun N1 c1 H1 x1 W1 => iteF ?_⟩
    exact ⟨E, N1, c1, env, s1, d, st', R.ex x1 W1, q, fun N2 c2 H2 x2 W2 => k N2 c2 H2 (x1.trans x2 R.wd) W2⟩
theorem r_not {σ : L2.St} {H : Hp} {Q : Bool → Hp → Prop} (h : tT mg (bNot ta) σ H Q) : tNot (tT mg ta) σ H Q := by
  obtain ⟨E, N, c, env, st, d, st', R, q, k⟩ := h
  unfold bNot at q
  split at q
  · cases q
  · rename_i b s1 q1
    cases q
    exact ⟨E, N, c, env, st, b, _, R, q1, k⟩
theorem w_or1 (ha : PT X a (tT mg ta)) : PW X (.BoolOp .Or [a] pos) (tT mg ta) := pw_or1 ha
theorem w_or (ha : PT X a (tT mg ta)) (hb : PW X (.BoolOp .Or (b :: rest) pos) (tT mg tb)) : PW X (.BoolOp .Or (a :: b :: rest) pos) (tT mg (bOr ta tb)) := pw_weak (pw_or ha hb) fun _ _ _ q => r_or q
theorem w_pt (h : PW X e (tT mg ta)) : PT X e (tT mg ta) := h.pt
theorem d_not (ha : PT X a (tT mg ta)) : PT X (.UnaryOp .Not a pos) (tT mg (bNot ta)) := pt_weak (pt_not ha) fun _ _ _ q => r_not q
/-- a comparison as a test -/
theorem test_cmp {M : Model} {A : Around} {l r : Expr} {op : CmpOp} {pos : Pos} {env : PySem.Env} {whole : Sem Value} {Q : Bool → Shared → Prop} {E : Value → Shared → Prop} {s : Shared}
    (h : wpAny M A (eval (.Compare l [op] [r] pos) env) (fun c s₃ => wpAny M A (truthy c) Q E s₃) E s) : wpAny M A (isTrue (.Compare l [op] [r] pos) env whole) Q E s := fun Γ p hΓ => by
  have h := h Γ p hΓ
  simp only [eval_Compare1, isTrue_Compare1, Sem.wp_bind', Sem.wp_holding, Sem.wp_cmd_standAt, Sem.wp_operate] at h ⊢
  exact Sem.wp_mono M Γ _ (fun a p₁ s₁ h₁ => Sem.wp_mono M Γ _ (fun b _ s₂ h₂ => Sem.wp_mono M Γ _ (fun c p₃ s₃ h₃ => h₃ Γ p₃ hΓ)
    (fun _ _ _ h' => h') _ _ h₂) (fun _ _ _ h' => h') _ _ h₁) (fun _ _ _ h' => h') _ _ h
theorem d_testC {o : CmpOp} (h : PE X (.Compare a [o] [b] pos) (tP mg fe)) : PT X (.Compare a [o] [b] pos) (tT mg (bOf fe)) := by
  refine ⟨fun pins s σ H Q I q => ?_⟩
  refine test_cmp (thn (h.run pins s σ H _ I (r_bOf q)) fun c s3 ⟨z, H3, I3, r3, e3⟩ => ?_)
  obtain ⟨k, e, q3⟩ := e3
  subst e
  cases r3
  exact wpAny_truthy_bool ⟨H3, I3, q3⟩
end

/-! ### and, or, not as values of truth values; if; minus -/
def eAnd (f g : SE) : SE := fun env st => match f env st with
  | some (.bl true, s1) => g env s1
  | some (.bl false, s1) => some (.bl false, s1)
  | _ => none
def eOr (f g : SE) : SE := fun env st => match f env st with
  | some (.bl true, s1) => some (.bl true, s1)
  | some (.bl false, s1) => g env s1
  | _ => none
def eNot (f : SE) : SE := fun env st => match f env st with
  | some (.bl b, s1) => some (.bl (!b), s1)
  | _ => none
def eIf {α : Type} (t : SB) (f g : Fx α) : Fx α := fun env st => match t env st with
  | some (true, s1) => f env s1
  | some (false, s1) => g env s1
  | none => none
def eNeg (f : SE) : SE := fun env st => match f env st with
  | some (.int i, s1) => some (.int (-i), s1)
  | _ => none
section
variable {X : Cx} {mg : Glob} {e a b : Expr} {rest : List Expr} {pos : Pos} {fe fa fb : SE} {ta tb tc : SB}
theorem r_andV {σ : L2.St} {H : Hp} {Q : VK} (h : tE mg (eAnd fa fb) σ H Q) : tAndV (tP mg fa) (tE mg fb) σ H Q := by
  obtain ⟨E, N, c, env, st, d, st', R, q, k⟩ := h
  unfold eAnd at q
  split at q
  · rename_i s1 q1
    refine ⟨E, N, c, env, st, _, s1, R, q1, fun v N1 c1 H1 x1 W1 r1 => ⟨true, r1.bl, iteT ?_⟩⟩
    exact ⟨E, N1, c1, env, s1, d, st', R.ex x1 W1, q, fun v N2 c2 H2 x2 W2 r2 => k v N2 c2 H2 (x1.trans x2 R.wd) W2 r2⟩
  · rename_i s1 q1
    cases q
    exact ⟨E, N, c, env, st, _, _, R, q1, fun v N1 c1 H1 x1 W1 r1 => ⟨false, r1.bl, iteF (k _ N1 c1 H1 x1 W1 (.bl false))⟩⟩
  · cases q
theorem v_one {op : BoolOp} (ha : PE X a (tE mg fa)) : PE X (.BoolOp op [a] pos) (tE mg fa) := pe_one ha
theorem v_and (ha : PE X a (tP mg fa)) (hb : PE X (.BoolOp .And (b :: rest) pos) (tE mg fb)) : PE X (.BoolOp .And (a :: b :: rest) pos) (tE mg (eAnd fa fb)) := pe_weak (pe_and ha hb) fun _ _ _ q => r_andV q
end
end LW

/-! LwD: argument lists, displays, subscripts, slices, built-in calls, attributes. -/
namespace LW
open PySem L2 PyProof.Rows

/-! ### argument lists -/
inductive RepTL (mg : Glob) (N : Prot) (c : List Addr) (H : Hp) : List V → List D → Prop where
  | nil : RepTL mg N c H [] []
  | cons {v : V} {d : D} {vs : List V} {ds : List D} (h : RepT mg N c H v d) (t : RepTL mg N c H vs ds) : RepTL mg N c H (v :: vs) (d :: ds)
abbrev SA := Fx (List D)
abbrev ToldA := Prot → List Addr → Hp → List V → List D → Prop
def tAX (mg : Glob) (R : ToldA) (f : SA) : TA := fun σ H Q => ∃ (E : En) (N : Prot) (c : List Addr) (env : Env) (st : Sto) (d : List D) (st' : Sto), Rel mg E N c env st σ H ∧ f env st = some (d, st') ∧
  ∀ vs N' c' H', Ex N c H N' c' H' → Wd mg N' c' H' st' → R N' c' H' vs d → Q vs H'
abbrev tA (mg : Glob) (f : SA) : TA := tAX mg (RepL mg) f
abbrev tAP (mg : Glob) (f : SA) : TA := tAX mg (RepTL mg) f
def aNil : SA := fun _ st => some ([], st)
def aCons (f : SE) (g : SA) : SA := fun env st => match f env st with
  | none => none
  | some (d, s1) => match g env s1 with
    | none => none
    | some (ds, s2) => some (d :: ds, s2)
section
variable {mg : Glob} {X : Cx} {e : Expr} {es : List Expr} {f : SE} {g : SA}
theorem RepTL.ex {N N' : Prot} {c c' : List Addr} {H H' : Hp} {st : Sto} (x : Ex N c H N' c' H') (W : Wd mg N c H st) : ∀ {vs : List V} {ds : List D}, RepTL mg N c H vs ds → RepTL mg N' c' H' vs ds
  | _, _, .nil => .nil
  | _, _, .cons h t => .cons (RepT.ex x W h) (RepTL.ex x W t)
theorem RepL.toT {N : Prot} {c : List Addr} {H : Hp} : ∀ {vs : List V} {ds : List D}, RepL mg N c H vs ds → RepTL mg N c H vs ds
  | _, _, .nil => .nil
  | _, _, .cons h t => .cons (.inl h) (RepL.toT t)
theorem a_nil : PA X [] (tA mg aNil) := pa_weak pa_nil fun σ H Q ⟨E, N, c, env, st, d, st', R, q, k⟩ => by
  cases q
  exact k [] N c H Ex.refl R.wd .nil
theorem p_nil : PA X [] (tAP mg aNil) := pa_weak pa_nil fun σ H Q ⟨E, N, c, env, st, d, st', R, q, k⟩ => by
  cases q
  exact k [] N c H Ex.refl R.wd .nil
theorem a_cons (ha : PE X e (tE mg f)) (hr : PA X es (tA mg g)) (hs : starEach (e :: es) X.env = (false, eval e X.env) :: starEach es X.env := by rfl) : PA X (e :: es) (tA mg (aCons f g)) := pa_weak (pa_cons ha hr hs) fun σ H Q ⟨E, N, c, env, st, d, st', R, q, k⟩ => by
  unfold aCons at q
  split at q
  · cases q
  · rename_i d1 s1 q1
    split at q
    · cases q
    · rename_i ds s2 q2
      cases q
      refine ⟨E, N, c, env, st, d1, s1, R, q1, fun v N1 c1 H1 x1 W1 r1 => ?_⟩
      exact ⟨E, N1, c1, env, s1, ds, _, R.ex x1 W1, q2, fun vs N2 c2 H2 x2 W2 r2 => k _ N2 c2 H2 (x1.trans x2 R.wd) W2 (.cons (Rep.tr (x2.tr W1) r1) r2)⟩
theorem p_cons (ha : PE X e (tP mg f)) (hr : PA X es (tAP mg g)) (hs : starEach (e :: es) X.env = (false, eval e X.env) :: starEach es X.env := by rfl) : PA X (e :: es) (tAP mg (aCons f g)) := pa_weak (pa_cons ha hr hs) fun σ H Q ⟨E, N, c, env, st, d, st', R, q, k⟩ => by
  unfold aCons at q
  split at q
  · cases q
  · rename_i d1 s1 q1
    split at q
    · cases q
    · rename_i ds s2 q2
      cases q
      refine ⟨E, N, c, env, st, d1, s1, R, q1, fun v N1 c1 H1 x1 W1 r1 => ?_⟩
      exact ⟨E, N1, c1, env, s1, ds, _, R.ex x1 W1, q2, fun vs N2 c2 H2 x2 W2 r2 => k _ N2 c2 H2 (x1.trans x2 R.wd) W2 (.cons (RepT.ex x2 W1 r1) r2)⟩
end

/-! ### displays -/
def eTup (f : SA) : SE := fun env st => match f env st with
  | none => none
  | some (ds, s1) => if ds.length ≤ 1000000 then some (.tup ds, s1) else none
def lDisp (f : SA) : Fx (List D) := fun env st => match f env st with
  | none => none
  | some (ds, s1) => if ds.length ≤ 1000000 then some (ds, s1) else none
section
variable {mg : Glob} {X : Cx} {es : List Expr} {pos : Pos} {g : SA}
theorem d_tup {x1} (h : PA X es (tA mg g)) : PE X (.Tuple es x1 pos) (tE mg (eTup g)) := pe_weak (pe_tup h) fun σ H Q ⟨E, N, c, env, st, d, st', R, q, k⟩ => by
  unfold eTup at q
  split at q
  · cases q
  · rename_i ds s1 q1
    split at q
    · rename_i hl
      cases q
      refine ⟨E, N, c, env, st, ds, _, R, q1, fun vs N1 c1 H1 x1 W1 r1 => ⟨sz6 (by rw [r1.length]; exact hl), fun p hp => ?_⟩⟩
      exact k _ _ _ _ (x1.trans (Ex.laid W1 hp) R.wd) (W1.laid hp) (Rep.laidT W1 hp r1)
    · cases q
theorem d_lst (h : PA X es (tA mg g)) : PE X (.List es pos) (tL mg (lDisp g)) := pe_weak (pe_lst h) fun σ H Q ⟨E, N, c, env, st, d, st', R, q, k⟩ => by
  unfold lDisp at q
  split at q
  · cases q
  · rename_i ds s1 q1
    split at q
    · rename_i hl
      cases q
      refine ⟨E, N, c, env, st, _, _, R, q1, fun vs N1 c1 H1 x1 W1 r1 => ⟨sz6 (by rw [r1.length]; exact hl), fun p hp => ?_⟩⟩
      exact k _ _ _ _ (x1.trans (Ex.laidN W1 hp) R.wd) (W1.laidN hp) (back_N R.wd x1 W1 (RN.laid W1 hp r1))
    · cases q
end

/-! ### subscripts -/
def oIx : D → D → Sto → Option D := fun x y st => match y with
  | .int i => match x with
    | .tup xs => atI xs i
    | .str z => if z.length ≤ 1000000 then (match atI z.cps.toList i with | some ch => some (.str ⟨#[ch]⟩) | none => none) else none
    | x => match lstR st x with
      | some xs => atI xs i
      | none => none
  | _ => none
theorem RepL.atI {mg : Glob} {N : Prot} {c : List Addr} {H : Hp} {vs : List V} {ds : List D} {i : Int} {d : D} (r : RepL mg N c H vs ds) (h : L2.atI ds i = some d) : ∃ v, L2.atI vs i = some v ∧ Rep mg N c H v d := by
  unfold L2.atI at h ⊢
  rw [r.length]
  cases e : ixN ds.length i with
  | none => rw [e] at h; cases h
  | some j =>
    rw [e] at h
    exact r.get h
theorem ok_ix {mg : Glob} : OpOk mg (RE mg) (rIx mg.K) oIx := by
  intro N c H st u v x y d Q W p1 p2 e k
  unfold oIx at e
  split at e
  · rename_i i
    split at e
    · rename_i xs
      obtain ⟨a, vs, rfl, ha, r⟩ := p1.tup
      obtain ⟨w, hw, rw_⟩ := r.atI e
      exact .inr (.inl ⟨a, vs, i, w, rfl, p2.int, SqT.of ha, hw, k w N c H Ex.refl W rw_⟩)
    · rename_i z
      split at e
      · rename_i hl
        split at e
        · rename_i ch hch
          cases e
          exact .inr (.inr ⟨z, i, ch, p1.str, p2.int, sz6 hl, hch, k _ N c H Ex.refl W (.str _)⟩)
        · cases e
      · cases e
    · split at e
      · rename_i xs hx
        obtain ⟨a, vs, rfl, ha, r⟩ := RepT.read W p1 hx
        obtain ⟨w, hw, rw_⟩ := r.atI e
        exact .inl ⟨a, vs, i, w, rfl, p2.int, ha, hw, k w N c H Ex.refl W rw_⟩
      · cases e
  · cases e
section
variable {mg : Glob} {X : Cx} {a b : Expr} {pos p2 : Pos} {fa fb : SE}
theorem d_ix (ha : PE X a (tP mg fa)) (hb : PE X b (tP mg fb)) (hs : PlainIx b := by exact fun _ _ => rfl) (hK : X.K = mg.K := by rfl) : PE X (.Subscript a b pos) (tE mg (eOp oIx fa fb)) := pe_weak (pe_ix (hK ▸ ix_seq) ha hb hs) fun _ _ _ h => r_op ok_ix back_E h
end

/-! ### slices -/
def cutD {α : Type} (xs : List α) (lo hi : Option Int) : List α := (xs.drop (HT.sIx xs.length 0 lo)).take (HT.sIx xs.length xs.length hi - HT.sIx xs.length 0 lo)
/-- a part of a slice -/
abbrev SO := Fx (Option Int)
def tOX (mg : Glob) (f : SO) : TO := fun σ H Q => ∃ (E : En) (N : Prot) (c : List Addr) (env : Env) (st : Sto) (d : Option Int) (st' : Sto), Rel mg E N c env st σ H ∧ f env st = some (d, st') ∧
  ∀ N' c' H', Ex N c H N' c' H' → Wd mg N' c' H' st' → Q d H'
def oNone : SO := fun _ st => some (none, st)
def oSome (f : SE) : SO := fun env st => match f env st with
  | some (.int i, s1) => some (some i, s1)
  | _ => none
def eSl {α : Type} (op : D → Option Int → Option Int → Sto → Option α) (f : SE) (lo hi : SO) : Fx α := fun env st => match f env st with
  | none => none
  | some (x, s1) => match lo env s1 with
    | none => none
    | some (l, s2) => match hi env s2 with
      | none => none
      | some (h, s3) => match op x l h s3 with
        | none => none
        | some d => some (d, s3)
def slL : D → Option Int → Option Int → Sto → Option (List D) := fun x lo hi st => match lstR st x with
  | some xs => some (cutD xs lo hi)
  | none => none
theorem po_weak {X : Cx} {e : Option Expr} {t t' : TO} (h : PO X e t) (w : ∀ σ H Q, t' σ H Q → t σ H Q) : PO X e t' := ⟨fun pins s σ H Q I q => h.run pins s σ H Q I (w σ H Q q)⟩
section
variable {mg : Glob} {X : Cx} {e : Expr} {lo hi : Option Expr} {pos p2 : Pos} {f : SE} {gl gh : SO}
theorem o_some (h : PE X e (tP mg f)) : PO X (some e) (tOX mg (oSome f)) := po_weak (po_some h) fun σ H Q ⟨E, N, c, env, st, d, st', R, q, k⟩ => by
  unfold oSome at q
  split at q
  · rename_i i s1 q1
    cases q
    exact ⟨E, N, c, env, st, _, _, R, q1, fun v N1 c1 H1 x1 W1 r1 => ⟨i, r1.int, k N1 c1 H1 x1 W1⟩⟩
  · cases q
def SlOk {α : Type} (mg : Glob) (R : Told α) (r : V → Option Int → Option Int → Hp → VK → Prop) (op : D → Option Int → Option Int → Sto → Option α) : Prop := ∀ (N : Prot) (c : List Addr) (H : Hp) (st : Sto) (u : V) (lo hi : Option Int) (x : D) (d : α) (Q : VK), Wd mg N c H st → RepT mg N c H u x → op x lo hi st = some d →
  (∀ w N' c' H', Ex N c H N' c' H' → Wd mg N' c' H' st → R N c H N' c' H' w d → Q w H') → r u lo hi H Q
theorem r_sl {α : Type} {Rt : Told α} {r : V → Option Int → Option Int → Hp → VK → Prop} {op : D → Option Int → Option Int → Sto → Option α} (hk : SlOk mg Rt r op) (hb : Back mg Rt) {σ : L2.St} {H : Hp} {Q : VK} (h : tX mg Rt (eSl op f gl gh) σ H Q) : tSl r (tP mg f) (tOX mg gl) (tOX mg gh) σ H Q := by
  obtain ⟨E, N, c, env, st, d, st', R0, q, k⟩ := h
  unfold eSl at q
  split at q
  · cases q
  · rename_i x s1 q1
    split at q
    · cases q
    · rename_i l s2 q2
      split at q
      · cases q
      · rename_i hh s3 q3
        split at q
        · cases q
        · rename_i d0 q4
          cases q
          refine ⟨E, N, c, env, st, x, s1, R0, q1, fun v1 N1 c1 H1 x1 W1 p1 => ?_⟩
          refine ⟨E, N1, c1, env, s1, l, s2, R0.ex x1 W1, q2, fun N2 c2 H2 x2 W2 => ?_⟩
          have x12 := x1.trans x2 R0.wd
          refine ⟨E, N2, c2, env, s2, hh, _, R0.ex x12 W2, q3, fun N3 c3 H3 x3 W3 => ?_⟩
          have x13 := x12.trans x3 R0.wd
          refine hk N3 c3 H3 _ v1 l hh x _ Q W3 (RepT.ex x3 W2 (RepT.ex x2 W1 p1)) q4 fun w N' c' H' x4 W4 p4 => ?_
          exact k w N' c' H' (x13.trans x4 R0.wd) W4 (hb R0.wd x13 W3 p4)
theorem RepL.cut {N : Prot} {c : List Addr} {H : Hp} {vs : List V} {ds : List D} (r : RepL mg N c H vs ds) (lo hi : Option Int) : RepL mg N c H (cutV vs lo hi) (cutD ds lo hi) := by
  unfold cutV cutD
  rw [r.length]
  exact (r.drop _).take _
theorem ok_slL : SlOk mg (RN mg) (rSlL mg.K) slL := by
  intro N c H st u lo hi x d Q W p1 e k
  unfold slL at e
  split at e
  · rename_i xs hx
    cases e
    obtain ⟨a, vs, rfl, ha, r⟩ := RepT.read W p1 hx
    exact ⟨a, vs, rfl, ha, fun p hp => k _ _ _ _ (Ex.laidN W hp) (W.laidN hp) (RN.laid W hp (r.cut lo hi))⟩
  · cases e
theorem d_slL (he : PE X e (tP mg f)) (hl : PO X lo (tOX mg gl)) (hu : PO X hi (tOX mg gh)) (hK : X.K = mg.K := by rfl) : PE X (.Subscript e (.Slice lo hi none p2) pos) (tL mg (eSl slL f gl gh)) := pe_weak (pe_slice (hK ▸ sl_list) he hl hu) fun _ _ _ h => r_sl ok_slL back_N h
end
end LW

/-! LwE: built-in calls; defs by their promise, calls of defs, methods, classes, properties. -/
namespace LW
open PySem L2 PyProof.Rows

/-! ### built-in calls -/
def eBi {α : Type} (g : List D → Sto → Option α) (f : SA) : Fx α := fun env st => match f env st with
  | none => none
  | some (ds, s1) => match g ds s1 with
    | none => none
    | some d => some (d, s1)
def BiOk {α : Type} (mg : Glob) (R : Told α) (r : List V → Hp → VK → Prop) (g : List D → Sto → Option α) : Prop := ∀ (N : Prot) (c : List Addr) (H : Hp) (st : Sto) (us : List V) (ds : List D) (d : α) (Q : VK), Wd mg N c H st → RepTL mg N c H us ds → g ds st = some d →
  (∀ w N' c' H', Ex N c H N' c' H' → Wd mg N' c' H' st → R N c H N' c' H' w d → Q w H') → r us H Q
def orB {α : Type} (f g : List D → Sto → Option α) : List D → Sto → Option α := fun ds st => match f ds st with
  | some d => some d
  | none => g ds st
section
variable {α : Type} {mg : Glob} {R : Told α} {r r' : List V → Hp → VK → Prop} {g g' : List D → Sto → Option α} {f : SA} {X : Cx} {x : Str} {e : Expr} {es : List Expr} {p pos : Pos}
theorem BiOk.or (h : BiOk mg R r g) (h' : BiOk mg R r' g') : BiOk mg R (fun xs H Q => r xs H Q ∨ r' xs H Q) (orB g g') := by
  intro N c H st us ds d Q W p q k
  unfold orB at q
  split at q
  · rename_i d0 e0
    cases q
    exact .inl (h N c H st us ds _ Q W p e0 k)
  · exact .inr (h' N c H st us ds d Q W p q k)
theorem r_bi (hk : BiOk mg R r g) (hb : Back mg R) {σ : L2.St} {H : Hp} {Q : VK} (h : tX mg R (eBi g f) σ H Q) : tCB r (tAP mg f) σ H Q := by
  obtain ⟨E, N, c, env, st, d, st', R0, q, k⟩ := h
  unfold eBi at q
  split at q
  · cases q
  · rename_i ds s1 q1
    split at q
    · cases q
    · rename_i d0 q2
      cases q
      refine ⟨E, N, c, env, st, ds, _, R0, q1, fun vs N1 c1 H1 x1 W1 p1 => ?_⟩
      refine hk N1 c1 H1 _ vs ds _ Q W1 p1 q2 fun w N' c' H' x2 W2 p2 => ?_
      exact k w N' c' H' (x1.trans x2 R0.wd) W2 (hb R0.wd x1 W1 p2)
/-- f(e, ..), f a built-in function; T(e, ..), T a built-in class -/
theorem d_bi {id : String} (hc : CallR X (.builtin id) r) (hk : BiOk mg R r g) (hb : Back mg R) (hg : Gl X x) (hm : X.mg x = none) (hv : bootBuiltins x = some (.builtin id)) (ha : PA X (e :: es) (tAP mg f)) (hn : x ≠ "__name__" := by decide) (hdb : (x == ("__debug__" : Str)) = false := by decide)
    (he : starEach (e :: es) X.env = (false, eval e X.env) :: starEach es X.env := by rfl) (hpl : (backTo pos (starEach es X.env)).any (·.1) = false := by rfl) : PE X (.Call (.Name x p) (e :: es) [] pos) (tX mg R (eBi g f)) :=
  pe_weak (pe_callB hc hg hm hv ha hn hdb he hpl) fun _ _ _ h => r_bi hk hb h
theorem d_bt {T : String} (hc : CallR X (.type T) r) (hk : BiOk mg R r g) (hb : Back mg R) (hg : Gl X x) (hm : X.mg x = none) (hv : bootBuiltins x = some (.type T)) (ha : PA X (e :: es) (tAP mg f)) (hn : x ≠ "__name__" := by decide) (hdb : (x == ("__debug__" : Str)) = false := by decide)
    (he : starEach (e :: es) X.env = (false, eval e X.env) :: starEach es X.env := by rfl) (hpl : (backTo pos (starEach es X.env)).any (·.1) = false := by rfl) : PE X (.Call (.Name x p) (e :: es) [] pos) (tX mg R (eBi g f)) :=
  pe_weak (pe_callTy hc hg hm hv ha hn hdb he hpl) fun _ _ _ h => r_bi hk hb h
end
section
variable {mg : Glob} {N : Prot} {c : List Addr} {H : Hp} {us : List V}
theorem tl1 {d : D} (h : RepTL mg N c H us [d]) : ∃ u, us = [u] ∧ RepT mg N c H u d := by
  cases h with
  | cons h t => cases t; exact ⟨_, rfl, h⟩
theorem tl2 {d d' : D} (h : RepTL mg N c H us [d, d']) : ∃ u u', us = [u, u'] ∧ RepT mg N c H u d ∧ RepT mg N c H u' d' := by
  cases h with
  | cons h t => obtain ⟨u', rfl, h'⟩ := tl1 t; exact ⟨_, _, rfl, h, h'⟩
end
/-- len of a list, a tuple, a text -/
def gLen : List D → Sto → Option D := fun ds st => match ds with
  | [.tup xs] => some (.int xs.length)
  | [.str z] => if z.length ≤ 1000000 then some (.int z.length) else none
  | [x] => match lstR st x with
    | some xs => some (.int xs.length)
    | none => none
  | _ => none
theorem ok_len {mg : Glob} : BiOk mg (RE mg) (fun xs H Q => (∃ p ys, xs = [.ref p] ∧ (SqL mg.K H p ys ∨ SqT mg.K H p ys) ∧ Q (.int ys.length) H) ∨ ∃ z, xs = [.str z] ∧ z.length ≤ sizeLine ∧ Q (.int z.length) H) gLen := by
  intro N c H st us ds d Q W p q k
  unfold gLen at q
  split at q
  · rename_i xs
    cases q
    obtain ⟨u, rfl, h⟩ := tl1 p
    obtain ⟨a, vs, rfl, ha, r⟩ := h.tup
    refine .inl ⟨a, vs, rfl, .inr (SqT.of ha), ?_⟩
    rw [r.length]
    exact k _ N c H Ex.refl W (.int _)
  · rename_i z
    split at q
    · rename_i hl
      cases q
      obtain ⟨u, rfl, h⟩ := tl1 p
      exact .inr ⟨z, by rw [h.str], sz6 hl, k _ N c H Ex.refl W (.int _)⟩
    · cases q
  · split at q
    · rename_i xs hx
      cases q
      obtain ⟨u, rfl, h⟩ := tl1 p
      obtain ⟨a, vs, rfl, ha, r⟩ := RepT.read W h hx
      refine .inl ⟨a, vs, rfl, .inl ha, ?_⟩
      rw [r.length]
      exact k _ N c H Ex.refl W (.int _)
    · cases q
  · cases q
/-- a list of whole numbers -/
def intsOf : List D → Option (List Int)
  | [] => some []
  | .int i :: r => match intsOf r with
    | some ns => some (i :: ns)
    | none => none
  | _ :: _ => none
theorem intsOf_eq : ∀ {xs : List D} {ns : List Int}, intsOf xs = some ns → xs = ns.map D.int
  | [], _, e => by cases e; rfl
  | .int i :: r, ns, e => by
    unfold intsOf at e
    split at e
    · rename_i ms hm
      cases e
      rw [intsOf_eq hm]; rfl
    · cases e
  | .non :: _, _, e => by cases e
  | .bl _ :: _, _, e => by cases e
  | .str _ :: _, _, e => by cases e
  | .ty _ :: _, _, e => by cases e
  | .tup _ :: _, _, e => by cases e
  | .lst _ :: _, _, e => by cases e
  | .fro _ :: _, _, e => by cases e
  | .cell _ :: _, _, e => by cases e
  | .obj _ _ _ :: _, _, e => by cases e
  | .cls _ :: _, _, e => by cases e
  | .dic _ _ :: _, _, e => by cases e
  | .dit _ _ :: _, _, e => by cases e
theorem intsOf_map : ∀ (ns : List Int), intsOf (ns.map D.int) = some ns
  | [] => rfl
  | n :: r => by
    show (match intsOf (r.map D.int) with | some ns => some (n :: ns) | none => none) = _
    rw [intsOf_map r]
def lstI (st : Sto) (x : D) : Option (List Int) := match lstR st x with
  | some xs => intsOf xs
  | none => none
theorem RepT.ints {mg : Glob} {N : Prot} {c : List Addr} {H : Hp} {st : Sto} {u : V} {x : D} {ns : List Int} (W : Wd mg N c H st) (h : RepT mg N c H u x) (e : lstI st x = some ns) : ∃ a, u = .ref a ∧ SqL mg.K H a (ns.map V.int) := by
  unfold lstI at e
  split at e
  · rename_i xs hx
    obtain ⟨a, vs, rfl, ha, r⟩ := RepT.read W h hx
    rw [intsOf_eq e] at r
    rw [r.of_ints] at ha
    exact ⟨a, rfl, ha⟩
  · cases e
def gSum : List D → Sto → Option D := fun ds st => match ds with
  | [x] => match lstI st x with
    | some ns => some (.int ns.sum)
    | none => none
  | _ => none
theorem ok_sum {mg : Glob} : BiOk mg (RE mg) (rSum mg.K) gSum := by
  intro N c H st us ds d Q W p q k
  unfold gSum at q
  split at q
  · split at q
    · rename_i ns hn
      cases q
      obtain ⟨u, rfl, h⟩ := tl1 p
      obtain ⟨a, rfl, ha⟩ := h.ints W hn
      exact ⟨a, ns, rfl, ha, k _ N c H Ex.refl W (.int _)⟩
    · cases q
  · cases q
def maxL : List Int → Option Int
  | [] => none
  | x :: r => match maxL r with
    | none => some x
    | some m => some (if m < x then x else m)
def minL : List Int → Option Int
  | [] => none
  | x :: r => match minL r with
    | none => some x
    | some m => some (if x < m then x else m)
theorem maxL_ok : ∀ {l : List Int} {m : Int}, maxL l = some m → m ∈ l ∧ ∀ y ∈ l, y ≤ m
  | [], _, e => by cases e
  | x :: r, m, e => by
    unfold maxL at e
    cases h : maxL r with
    | none =>
      rw [h] at e
      cases e
      cases r with
      | nil => exact ⟨List.mem_cons_self, fun y hy => by simp at hy; omega⟩
      | cons z t =>
        unfold maxL at h
        split at h <;> cases h
    | some k =>
      rw [h] at e
      dsimp only at e
      obtain ⟨h1, h2⟩ := maxL_ok h
      split at e
      · cases e
        exact ⟨List.mem_cons_self, fun y hy => (List.mem_cons.mp hy).elim (fun e => by omega) fun z => by have := h2 y z; omega⟩
      · cases e
        exact ⟨List.mem_cons_of_mem _ h1, fun y hy => (List.mem_cons.mp hy).elim (fun e => by omega) fun z => h2 y z⟩
theorem minL_ok : ∀ {l : List Int} {m : Int}, minL l = some m → m ∈ l ∧ ∀ y ∈ l, m ≤ y
  | [], _, e => by cases e
  | x :: r, m, e => by
    unfold minL at e
    cases h : minL r with
    | none =>
      rw [h] at e
      cases e
      cases r with
      | nil => exact ⟨List.mem_cons_self, fun y hy => by simp at hy; omega⟩
      | cons z t =>
        unfold minL at h
        split at h <;> cases h
    | some k =>
      rw [h] at e
      dsimp only at e
      obtain ⟨h1, h2⟩ := minL_ok h
      split at e
      · cases e
        exact ⟨List.mem_cons_self, fun y hy => (List.mem_cons.mp hy).elim (fun e => by omega) fun z => by have := h2 y z; omega⟩
      · cases e
        exact ⟨List.mem_cons_of_mem _ h1, fun y hy => (List.mem_cons.mp hy).elim (fun e => by omega) fun z => h2 y z⟩
def gMax : List D → Sto → Option D := fun ds st => match ds with
  | [.int i, .int j] => some (.int (if j > i then j else i))
  | [x] => match lstI st x with
    | some ns => match maxL ns with
      | some m => some (.int m)
      | none => none
    | none => none
  | _ => none
def gMin : List D → Sto → Option D := fun ds st => match ds with
  | [.int i, .int j] => some (.int (if j < i then j else i))
  | [x] => match lstI st x with
    | some ns => match minL ns with
      | some m => some (.int m)
      | none => none
    | none => none
  | _ => none
theorem ok_max {mg : Glob} : BiOk mg (RE mg) (fun xs H Q => (∃ i j, xs = [.int i, .int j] ∧ Q (.int (if j > i then j else i)) H) ∨ rMax mg.K xs H Q) gMax := by
  intro N c H st us ds d Q W p q k
  unfold gMax at q
  split at q
  · rename_i i j
    cases q
    obtain ⟨u, u', rfl, h, h'⟩ := tl2 p
    exact .inl ⟨i, j, by rw [h.int, h'.int], k _ N c H Ex.refl W (.int _)⟩
  · split at q
    · rename_i ns hn
      split at q
      · rename_i m hm
        cases q
        obtain ⟨u, rfl, h⟩ := tl1 p
        obtain ⟨a, rfl, ha⟩ := h.ints W hn
        obtain ⟨h1, h2⟩ := maxL_ok hm
        refine .inr ⟨a, ns, rfl, ha, List.length_pos_of_mem h1, fun m' h3 h4 => ?_⟩
        have e : m' = m := by
          have := h2 m' h3
          have := h4 m h1
          omega
        rw [e]
        exact k _ N c H Ex.refl W (.int _)
      · cases q
    · cases q
  · cases q
theorem ok_min {mg : Glob} : BiOk mg (RE mg) (fun xs H Q => (∃ i j, xs = [.int i, .int j] ∧ Q (.int (if j < i then j else i)) H) ∨ rMin mg.K xs H Q) gMin := by
  intro N c H st us ds d Q W p q k
  unfold gMin at q
  split at q
  · rename_i i j
    cases q
    obtain ⟨u, u', rfl, h, h'⟩ := tl2 p
    exact .inl ⟨i, j, by rw [h.int, h'.int], k _ N c H Ex.refl W (.int _)⟩
  · split at q
    · rename_i ns hn
      split at q
      · rename_i m hm
        cases q
        obtain ⟨u, rfl, h⟩ := tl1 p
        obtain ⟨a, rfl, ha⟩ := h.ints W hn
        obtain ⟨h1, h2⟩ := minL_ok hm
        refine .inr ⟨a, ns, rfl, ha, List.length_pos_of_mem h1, fun m' h3 h4 => ?_⟩
        have e : m' = m := by
          have := h2 m' h3
          have := h4 m h1
          omega
        rw [e]
        exact k _ N c H Ex.refl W (.int _)
      · cases q
    · cases q
  · cases q
section
variable {mg : Glob} {X : Cx} {e : Expr} {es : List Expr} {p pos : Pos} {f : SA}
theorem d_len (hm : X.mg "len" = none) (ha : PA X (e :: es) (tAP mg f)) (hg : Gl X "len" := by rfl) (he : starEach (e :: es) X.env = (false, eval e X.env) :: starEach es X.env := by rfl) (hpl : (backTo pos (starEach es X.env)).any (·.1) = false := by rfl) (hK : X.K = mg.K := by rfl) : PE X (.Call (.Name "len" p) (e :: es) [] pos) (tE mg (eBi gLen f)) :=
  d_bi (hK ▸ CallR.or call_len_seq call_len_str) ok_len back_E hg hm PySem.boot_len ha (by decide) (by decide) he hpl
theorem d_sum (hc : X.calm = true) (hm : X.mg "sum" = none) (ha : PA X (e :: es) (tAP mg f)) (hg : Gl X "sum" := by rfl) (he : starEach (e :: es) X.env = (false, eval e X.env) :: starEach es X.env := by rfl) (hpl : (backTo pos (starEach es X.env)).any (·.1) = false := by rfl) (hK : X.K = mg.K := by rfl) : PE X (.Call (.Name "sum" p) (e :: es) [] pos) (tE mg (eBi gSum f)) :=
  d_bi (hK ▸ cr_sum hc) ok_sum back_E hg hm (by decide +kernel) ha (by decide) (by decide) he hpl
theorem d_max (hc : X.calm = true) (hm : X.mg "max" = none) (ha : PA X (e :: es) (tAP mg f)) (hg : Gl X "max" := by rfl) (he : starEach (e :: es) X.env = (false, eval e X.env) :: starEach es X.env := by rfl) (hpl : (backTo pos (starEach es X.env)).any (·.1) = false := by rfl) (hK : X.K = mg.K := by rfl) : PE X (.Call (.Name "max" p) (e :: es) [] pos) (tE mg (eBi gMax f)) :=
  d_bi (hK ▸ CallR.or (call_max2 hc) (cr_max hc)) ok_max back_E hg hm (by decide +kernel) ha (by decide) (by decide) he hpl
theorem d_min (hc : X.calm = true) (hm : X.mg "min" = none) (ha : PA X (e :: es) (tAP mg f)) (hg : Gl X "min" := by rfl) (he : starEach (e :: es) X.env = (false, eval e X.env) :: starEach es X.env := by rfl) (hpl : (backTo pos (starEach es X.env)).any (·.1) = false := by rfl) (hK : X.K = mg.K := by rfl) : PE X (.Call (.Name "min" p) (e :: es) [] pos) (tE mg (eBi gMin f)) :=
  d_bi (hK ▸ CallR.or (call_min2 hc) (cr_min hc)) ok_min back_E hg hm (by decide +kernel) ha (by decide) (by decide) he hpl
end
end LW

/-! LwF: repr, isinstance; defs by their promise. -/
namespace LW
open PySem L2 PyProof.Rows

/-! ### repr -/
def rRepr (K : PySem.W.Frag) : List V → Hp → VK → Prop := fun xs H Q => ∃ (x : V) (d : PyData), xs = [x] ∧ Dp K H x d ∧ SeqAt.shaped d = true ∧ d.showable = true ∧ d.shown.length ≤ sizeLine ∧ Q (.str d.shown) H
theorem call_repr {X : Cx} (hg : X.A.guards = some []) (hu : X.A.units + 80 < cLine) : CallR X (.builtin "repr") (rRepr X.K) := by
  intro pins s σ H xs us Q I r h
  obtain ⟨x, d, rfl, hd, hsh, hs, hz, q⟩ := h
  obtain ⟨u, rfl, ru⟩ := vals1 r
  obtain ⟨as, rd⟩ := Dp.reads I d x u hd ru
  have dep := SeqAt.depth_of_shaped hsh
  have nd : d.hasDict = true → sysModules ∉ as := PyData.noDict_hsm (PyData.hasDict_of_canLay d (SeqAt.canLay_of_shaped hsh))
  have fin : ∀ (h' : Heap) (t : Tok) (tk : Nat), (∀ b o, s.heap.get? b = some o → h'.get? b = some o) → EP X pins σ Q (.str d.shown t) { s with heap := h', toks := tk } := fun h' t tk hk => ⟨.str d.shown, H, I.kept hk, ⟨t, rfl⟩, q⟩
  cases hd with
  | non =>
    cases (show u = Value.none from ru)
    exact PySem.P.repr_of_none (by have := fin s.heap s.toks (s.toks + 1) (fun _ _ e => e); simpa [PyData.shown] using this)
  | bl b =>
    cases (show u = Value.bool b from ru)
    exact PySem.P.repr_of_bool (by have := fin s.heap s.toks (s.toks + 1) (fun _ _ e => e); simpa [PyData.shown] using this)
  | int i =>
    obtain ⟨t, rfl⟩ := (show ∃ t, u = Value.int i t from ru)
    exact PySem.P.repr_of_int (by simpa [PyData.showable] using hs) (by have := fin s.heap s.toks (s.toks + 1) (fun _ _ e => e); simpa [PyData.shown] using this)
  | str z =>
    obtain ⟨t, rfl⟩ := (show ∃ t, u = Value.str z t from ru)
    exact PySem.P.repr_of_str (by have := fin s.heap s.toks (s.toks + 1) (fun _ _ e => e); simpa [PyData.shown] using this) (by simpa [PyData.shown] using hz)
  | @lst a _ _ _ _ =>
    cases (show u = Value.ref a from ru)
    exact repr_of_reads' rd hs nd hg (by omega) (fun _ _ e => e) (fun h' t tk hk => fin h' t tk hk) hz
  | @tup a _ _ _ _ =>
    cases (show u = Value.ref a from ru)
    exact repr_of_reads' rd hs nd hg (by omega) (fun _ _ e => e) (fun h' t tk hk => fin h' t tk hk) hz
def gRepr : List D → Sto → Option D := fun ds st => match ds with
  | [x] => match toPy 60 st x with
    | some p => if p.showable = true ∧ p.shown.length ≤ 1000000 then some (.str p.shown) else none
    | none => none
  | _ => none
theorem ok_repr {mg : Glob} : BiOk mg (RE mg) (rRepr mg.K) gRepr := by
  intro N c H st us ds d Q W p q k
  unfold gRepr at q
  split at q
  · split at q
    · rename_i pd hp
      split at q
      · rename_i hs
        cases q
        obtain ⟨u, rfl, h⟩ := tl1 p
        exact ⟨u, pd, rfl, dp_T W h hp, toPy_shaped hp, hs.1, sz6 hs.2, k _ N c H Ex.refl W (.str _)⟩
      · cases q
    · cases q
  · cases q
/-! ### isinstance -/
inductive Ty7 where
  | non | bl | int | str | lst | tup | dic
def Ty7.name : Ty7 → String
  | .non => "NoneType"
  | .bl => "bool"
  | .int => "int"
  | .str => "str"
  | .lst => "list"
  | .tup => "tuple"
  | .dic => "dict"
/-- a dict in a cell -/
def isDcl (st : Sto) (k : Nat) : Bool := (dcG st k).isSome
theorem Wd.dcl {mg : Glob} {N : Prot} {c : List Addr} {H : Hp} {st : Sto} (W : Wd mg N c H st) {k : Nat} {a : Addr} (hc : c[k]? = some a) (e : isDcl st k = true) : (∃ kvs, H a = some (.dK kvs)) ∨ ∃ od kvs, H a = some (.frz od (.dK kvs)) := by
  unfold isDcl at e
  cases h : LW.dcG st k with
  | none => rw [h] at e; cases e
  | some p =>
    obtain ⟨kvs, ha, _⟩ := W.dcG hc h
    exact ha.imp (fun z => ⟨_, z⟩) fun ⟨od, z⟩ => ⟨_, _, z⟩
def ty7 (st : Sto) : D → Option Ty7
  | .non => some .non
  | .bl _ => some .bl
  | .int _ => some .int
  | .str _ => some .str
  | .tup _ => some .tup
  | .lst _ => some .lst
  | .cell k => match lcG st k with
    | some _ => some .lst
    | none => none
  | .dcl k => match isDcl st k with
    | true => some .dic
    | false => none
  | .dic _ _ => some .dic
  | .dit _ _ => none
  | _ => none
/-- a built-in class that is asked for -/
def kind7 (b : String) : Option Ty7 := if b = "int" then some .int else if b = "str" then some .str else if b = "list" then some .lst else if b = "tuple" then some .tup else if b = "dict" then some .dic else if b = "bool" then some .bl else none
def isi7 : Ty7 → Ty7 → Bool
  | .int, .int => true
  | .bl, .int => true
  | .bl, .bl => true
  | .str, .str => true
  | .lst, .lst => true
  | .tup, .tup => true
  | .dic, .dic => true
  | _, _ => false
theorem isi7_ok (t k : Ty7) (hk : k ≠ .non) : kitB t.name k.name = some (isi7 t k) := by
  cases k <;> first | exact absurd rfl hk | (cases t <;> decide +kernel)
theorem kind7_name {b : String} {k : Ty7} (h : kind7 b = some k) : k.name = b ∧ k ≠ .non := by
  unfold kind7 at h
  split at h
  · rename_i e; cases h; exact ⟨e.symm, by simp⟩
  · split at h
    · rename_i e; cases h; exact ⟨e.symm, by simp⟩
    · split at h
      · rename_i e; cases h; exact ⟨e.symm, by simp⟩
      · split at h
        · rename_i e; cases h; exact ⟨e.symm, by simp⟩
        · split at h
          · rename_i e; cases h; exact ⟨e.symm, by simp⟩
          · split at h
            · rename_i e; cases h; exact ⟨e.symm, by simp⟩
            · cases h
theorem ty7_of {mg : Glob} {N : Prot} {c : List Addr} {H : Hp} {st : Sto} {u : V} {x : D} {t : Ty7} {K : PySem.W.Frag} (W : Wd mg N c H st) (h : RepT mg N c H u x) (e : ty7 st x = some t) : TyX K H u (.type t.name) := by
  rcases h with h | ⟨a, vs, xs, rfl, rfl, ha, _, r⟩
  · cases h with
    | non => cases e; exact .base .non
    | bl b => cases e; exact .base (.bl b)
    | int i => cases e; exact .base (.int i)
    | str z => cases e; exact .base (.str z)
    | tup h _ => cases e; exact .base (.tup h)
    | lst h _ _ => cases e; exact .base (.lst h)
    | @cell k a hc =>
      have e : (match lcG st k with | some _ => some Ty7.lst | none => none) = some t := e
      cases hx : lcG st k with
      | none => rw [hx] at e; cases e
      | some xs =>
        rw [hx] at e
        cases e
        obtain ⟨vs, ha, _⟩ := W.lstC hc hx
        exact .base (.lst ha)
    | @dcl k a hc =>
      have e : (match isDcl st k with | true => some Ty7.dic | false => none) = some t := e
      cases hx : isDcl st k with
      | false => rw [hx] at e; cases e
      | true =>
        rw [hx] at e
        cases e
        rcases W.dcl hc hx with ⟨kvs, ha⟩ | ⟨od, kvs, ha⟩
        · exact .base (.dK ha)
        · exact .fDict ha
    | dic h _ _ _ => cases e; exact .base (.dK h)
    | dfz h _ _ _ => cases e; exact .fDict h
    | _ => cases e
  · cases e
    exact .base (.lst ha)
/-- an own class as isinstance sees it -/
structure CF (K : PySem.W.Frag) (C : Addr) : Prop where
  cl : Cls K C
  ha : PySem.W.findIn K (.ref C) "__class__" = some (some (.builtin "object.__class__"))
  hn : PySem.W.specialIn K (.builtin "object.__class__") "__get__" = some (some (.builtin "getset_descriptor.__get__"))
  htk : PySem.W.takesIn K (.builtin "object.__class__") = some true
  hm : PySem.W.mroIn K C (.type "object") = some true
/-- the own classes cs: none is a kind of another -/
structure Isi (mg : Glob) (cs : List Str) : Prop where
  cf : ∀ n C, n ∈ cs → mg.mg n = some (.ref C) → CF mg.K C
  oo : ∀ n m C C', n ∈ cs → m ∈ cs → mg.mg n = some (.ref C) → mg.mg m = some (.ref C') → PySem.W.kitOne mg.K (.ref C) (.ref C') = some (decide (n = m))
  bo : ∀ (t : Ty7) m C, m ∈ cs → mg.mg m = some (.ref C) → PySem.W.kitOne mg.K (.type t.name) (.ref C) = some false
  ob : ∀ n C (t : Ty7), n ∈ cs → mg.mg n = some (.ref C) → t ≠ .non → PySem.W.kitOne mg.K (.ref C) (.type t.name) = some false
def gIsi (cs : List Str) : List D → Sto → Option D := fun ds st => match ds with
  | [x, .ty b] => match kind7 b with
    | some k => match ty7 st x with
      | some t => some (.bl (isi7 t k))
      | none => match x with
        | .obj n _ _ => if n ∈ cs then some (.bl false) else none
        | _ => none
    | none => none
  | [x, .cls m] => if m ∈ cs then (match ty7 st x with
      | some _ => some (.bl false)
      | none => match x with
        | .obj n _ _ => if n ∈ cs then some (.bl (decide (n = m))) else none
        | _ => none) else none
  | _ => none
theorem RepT.obj {mg : Glob} {N : Prot} {c : List Addr} {H : Hp} {u : V} {cn : Str} {ns : List Str} {ds : List D} (h : RepT mg N c H u (.obj cn ns ds)) : ∃ a C dx fs, u = .ref a ∧ mg.mg cn = some (.ref C) ∧ H a = some (.ins C dx fs) ∧ fs.map (·.1) = ns ∧ RepL mg N c H (fs.map (·.2)) ds := by
  rcases h with h | ⟨_, _, _, _, e, _⟩
  · cases h with
    | obj hc ha _ hn r => exact ⟨_, _, _, _, rfl, hc, ha, hn, r⟩
  · cases e
theorem RepT.cls {mg : Glob} {N : Prot} {c : List Addr} {H : Hp} {u : V} {cn : Str} (h : RepT mg N c H u (.cls cn)) : ∃ C, u = .ref C ∧ mg.mg cn = some (.ref C) := by
  rcases h with h | ⟨_, _, _, _, e, _⟩
  · cases h with
    | cls hc => exact ⟨_, rfl, hc⟩
  · cases e
theorem ok_isi {mg : Glob} {cs : List Str} (T : Isi mg cs) : BiOk mg (RE mg) (rIsi mg.K) (gIsi cs) := by
  intro N c H st us ds d Q W p q k
  unfold gIsi at q
  split at q
  · rename_i x b
    obtain ⟨u, u', rfl, h, h'⟩ := tl2 p
    have e' := h'.ty
    subst e'
    split at q
    · rename_i kd hkd
      obtain ⟨hname, hnon⟩ := kind7_name hkd
      split at q
      · rename_i t ht
        cases q
        exact ⟨u, .ty b, _, _, _, rfl, .ty b, ty7_of W h ht, by rw [← hname]; exact kit_ty (isi7_ok t kd hnon), k _ N c H Ex.refl W (.bl _)⟩
      · split at q
        · rename_i n ns vs
          split at q
          · rename_i hn
            cases q
            obtain ⟨a, C, dx, fs, rfl, hc, ha, _, _⟩ := h.obj
            have cf := T.cf _ C hn hc
            exact ⟨_, .ty b, _, _, _, rfl, .ty b, .base (.ins ha cf.cl cf.ha cf.hn cf.htk cf.hm), by rw [← hname]; exact T.ob _ C kd hn hc hnon, k _ N c H Ex.refl W (.bl _)⟩
          · cases q
        · cases q
    · cases q
  · rename_i x m
    obtain ⟨u, u', rfl, h, h'⟩ := tl2 p
    obtain ⟨C', rfl, hc'⟩ := h'.cls
    split at q
    · rename_i hm
      split at q
      · rename_i t ht
        cases q
        exact ⟨u, .ref C', _, _, _, rfl, .own C', ty7_of W h ht, T.bo t m C' hm hc', k _ N c H Ex.refl W (.bl _)⟩
      · split at q
        · rename_i n ns vs
          split at q
          · rename_i hn
            cases q
            obtain ⟨a, C, dx, fs, rfl, hc, ha, _, _⟩ := h.obj
            have cf := T.cf _ C hn hc
            exact ⟨_, .ref C', _, _, _, rfl, .own C', .base (.ins ha cf.cl cf.ha cf.hn cf.htk cf.hm), T.oo _ m C C' hn hm hc hc', k _ N c H Ex.refl W (.bl _)⟩
          · cases q
        · cases q
    · cases q
  · cases q
section
variable {mg : Glob} {X : Cx} {e : Expr} {es : List Expr} {p pos : Pos} {f : SA} {cs : List Str}
theorem d_isi (T : Isi mg cs) (hm : X.mg "isinstance" = none) (ha : PA X (e :: es) (tAP mg f)) (hg : Gl X "isinstance" := by rfl) (he : starEach (e :: es) X.env = (false, eval e X.env) :: starEach es X.env := by rfl) (hpl : (backTo pos (starEach es X.env)).any (·.1) = false := by rfl) (hK : X.K = mg.K := by rfl) : PE X (.Call (.Name "isinstance" p) (e :: es) [] pos) (tE mg (eBi (gIsi cs) f)) :=
  d_bi (hK ▸ call_isi) (ok_isi T) back_E hg hm (by decide +kernel) ha (by decide) (by decide) he hpl
/-- a class of the program as a value -/
theorem d_cls {x : Str} {C : Addr} (hg : Gl X x) (hm : X.mg x = some (.ref C)) (hd : (x == ("__debug__" : Str)) = false := by decide) (hM : X.mg = mg.mg := by rfl) : PE X (.Name x pos) (tE mg (eC (.cls x))) :=
  d_glob hg hm (v := .ref C) rfl (fun _ _ _ => .cls (hM ▸ hm)) hd
end
end LW

/-! LwG: calls of defs, methods, classes, properties, fields. -/
namespace LW
open PySem L2 PyProof.Rows

/-- what a def reckons: by data and the cells -/
abbrev FM := List D → Sto → Option (D × Sto)
/-- the promise: the def hands back what g reckons, and changes nothing but cells -/
def spM (mg : Glob) (g : FM) (n : Nat) : Sp := fun vs H Q _ => vs.length = n ∧ ∃ (N : Prot) (c : List Addr) (ds : List D) (st : Sto) (d : D) (st' : Sto), Wd mg N c H st ∧ RepL mg N c H vs ds ∧ g ds st = some (d, st') ∧
  ∀ v N' c' H', Ex N c H N' c' H' → Wd mg N' c' H' st' → Rep mg N' c' H' v d → Q v H'
/-- only so many arguments -/
def Ar (n : Nat) (g : FM) : Prop := ∀ ds st r, g ds st = some r → ds.length = n
def eCall (g : FM) (dd : List D) (f : SA) : SE := fun env st => match f env st with
  | none => none
  | some (ds, s1) => g (ds ++ dd) s1
/-- defaults as data -/
def Dfl (mg : Glob) (dvs : List V) (dd : List D) : Prop := ∀ N c H, RepL mg N c H dvs dd
theorem dfl_nil {mg : Glob} : Dfl mg [] [] := fun _ _ _ => .nil
section
variable {mg : Glob} {X : Cx} {k : Nat} {f C : Addr} {fd : FuncData} {ps : List Str} {g : FM} {n : Nat} {dvs : List V} {ds : List Value} {dd : List D} {x m : Str} {p pos apos : Pos} {e o : Expr} {es : List Expr} {fs : SA} {fo : SE}
theorem r_call (ha : Ar n g) (hd : Dfl mg dvs dd) {t : TA} (ht : t = tA mg fs) {E : XK} {σ : L2.St} {H : Hp} {Q : VK} (h : tE mg (eCall g dd fs) σ H Q) : tCall (spM mg g n) dvs E t σ H Q := by
  subst ht
  obtain ⟨E0, N, c, env, st, d, st', R, q, kk⟩ := h
  unfold eCall at q
  split at q
  · cases q
  · rename_i ds s1 q1
    refine ⟨E0, N, c, env, st, ds, s1, R, q1, fun vs N1 c1 H1 x1 W1 r1 => ?_⟩
    have r2 := r1.append (hd N1 c1 H1)
    refine ⟨by rw [r2.length]; exact ha _ _ _ q, N1, c1, ds ++ dd, s1, d, st', W1, r2, q, fun v N2 c2 H2 x2 W2 r3 => ?_⟩
    exact kk v N2 c2 H2 (x1.trans x2 R.wd) W2 r3
theorem r_call0 (ha : Ar n g) (hd : Dfl mg dvs dd) {E : XK} {σ : L2.St} {H : Hp} {Q : VK} (h : tE mg (eCall g dd aNil) σ H Q) : tCall (spM mg g n) dvs E tNil σ H Q := by
  obtain ⟨E0, N, c, env, st, d, st', R, q, kk⟩ := h
  refine ⟨?_, N, c, dd, st, d, st', R.wd, hd N c H, q, kk⟩
  show (dvs : List V).length = n
  rw [(hd N c H).length]
  exact ha _ _ _ q
/-- f(e, ..) -/
theorem d_call (F : FnOk X.prog X.w X.K X.mg X.base CX0 k f fd ps (spM mg g n)) (har : Ar n g) (hr : Room k X.A) (hm : X.mg x = some (.ref f)) (hk : PySem.W.keepIn X.K (.ref f) = true) (hb : Binds X.K fd ps ds) (hd : Vals dvs ds) (hdd : Dfl mg dvs dd) (ha : PA X (e :: es) (tA mg fs))
    (hg : Gl X x := by rfl) (hdb : (x == ("__debug__" : Str)) = false := by decide) (he : starEach (e :: es) X.env = (false, eval e X.env) :: starEach es X.env := by rfl) (hpl : (backTo pos (starEach es X.env)).any (·.1) = false := by rfl) :
    PE X (.Call (.Name x p) (e :: es) [] pos) (tE mg (eCall g dd fs)) :=
  pe_weak (pe_call (E := E0) F hr hg hm hk hb hd pass0 ha hdb he hpl) fun _ _ _ h => r_call har hdd rfl h
theorem d_call0 (F : FnOk X.prog X.w X.K X.mg X.base CX0 k f fd ps (spM mg g n)) (har : Ar n g) (hr : Room k X.A) (hm : X.mg x = some (.ref f)) (hk : PySem.W.keepIn X.K (.ref f) = true) (hb : Binds X.K fd ps ds) (hd : Vals dvs ds) (hdd : Dfl mg dvs dd)
    (hg : Gl X x := by rfl) (hdb : (x == ("__debug__" : Str)) = false := by decide) : PE X (.Call (.Name x p) [] [] pos) (tE mg (eCall g dd aNil)) :=
  pe_weak (pe_call0 (E := E0) F hr hg hm hk hb hd pass0 hdb) fun _ _ _ h => r_call0 har hdd h

/-! ### methods -/
def eMeth (cn m : Str) (g : FM) (dd : List D) (fo : SE) (f : SA) : SE := fun env st => match fo env st with
  | some (.obj cn' ns vs, s1) => if cn' = cn ∧ ¬ m ∈ ns then (match f env s1 with
      | none => none
      | some (ds, s2) => g (.obj cn' ns vs :: (ds ++ dd)) s2) else none
  | _ => none
/-! ### properties, fields -/
def eProp (cn : Str) (g : FM) (fo : SE) : SE := fun env st => match fo env st with
  | some (.obj cn' ns vs, s1) => if cn' = cn then g [.obj cn' ns vs] s1 else none
  | _ => none
def fldD (m : Str) : List Str → List D → Option D
  | n :: ns, v :: vs => if m = n then some v else fldD m ns vs
  | _, _ => none
def eFld (cn m : Str) (fo : SE) : SE := fun env st => match fo env st with
  | some (.obj cn' ns vs, s1) => if cn' = cn then (match fldD m ns vs with
      | some d => some (d, s1)
      | none => none) else none
  | _ => none
end

/-! ### a new instance -/
/-- what an __init__ reckons: the fields -/
abbrev FI := List D → Sto → Option ((List Str × List D) × Sto)
def eMake (cn : Str) (g : FI) (dd : List D) (f : SA) : SE := fun env st => match f env st with
  | none => none
  | some (ds, s1) => match g (ds ++ dd) s1 with
    | none => none
    | some ((ns, fds), s2) => some (.obj cn ns fds, s2)
section
variable {mg : Glob} {X : Cx} {k : Nat} {f C : Addr} {fd : FuncData} {ps : List Str} {g : FI} {n : Nat} {dvs : List V} {ds : List Value} {dd : List D} {x m : Str} {p pos apos : Pos} {e o : Expr} {es : List Expr} {fs : SA} {fo : SE}
end
end LW

/-! LwH: statements. -/
namespace LW
open PySem L2 PyProof.Rows

inductive Out where
  | nx (e : Env) | rt (d : D) | bk (e : Env) | ct (e : Env)
abbrev SS := Env → Sto → Option (Out × Sto)
/-- a step of a statement: what is not protected stays -/
structure Sx (N : Prot) (c : List Addr) (H : Hp) (N' : Prot) (c' : List Addr) (H' : Hp) : Prop where
  keep : ∀ a o, H a = some o → ¬ N a → H' a = some o
  new : ∀ a, N' a → N a ∨ H a = none
  pre : ∀ (k : Nat) a, c[k]? = some a → c'[k]? = some a
  newc : ∀ a, a ∈ c' → a ∈ c ∨ H a = none
  trk : ∀ a, H' a = none → H a = none
  tup : ∀ a vs, H a = some (.tup vs) → H' a = some (.tup vs)
/-- the end of a def: seen from its entry -/
structure Fin (mg : Glob) (E : En) (c' : List Addr) (st' : Sto) (H' : Hp) (v : V) (d : D) : Prop where
  wd : Wd mg (fun a => E.N0 a ∨ a ∈ c') c' H' st'
  rep : Rep mg (fun a => E.N0 a ∨ a ∈ c') c' H' v d
  base : ∀ a o, E.H0 a = some o → a ∉ c' → H' a = some o
  pre : ∀ (k : Nat) a, E.c0[k]? = some a → c'[k]? = some a
  newc : ∀ a, a ∈ c' → a ∈ E.c0 ∨ E.H0 a = none
def tS (mg : Glob) (f : SS) : TS := fun De σ H => ∃ (E : En) (N : Prot) (c : List Addr) (env : Env) (st : Sto) (o : Out) (st' : Sto), Rel mg E N c env st σ H ∧ f env st = some (o, st') ∧
  match o with
  | .nx env' => ∀ N' c' σ' H', Sx N c H N' c' H' → Rel mg E N' c' env' st' σ' H' → De.nx σ' H'
  | .bk env' => ∀ N' c' σ' H', Sx N c H N' c' H' → Rel mg E N' c' env' st' σ' H' → De.bk σ' H'
  | .ct env' => ∀ N' c' σ' H', Sx N c H N' c' H' → Rel mg E N' c' env' st' σ' H' → De.ct σ' H'
  | .rt d => ∀ c' H' v, Fin mg E c' st' H' v d → De.rt v H'
section
variable {mg : Glob} {N N' N'' : Prot} {c c' c'' : List Addr} {H H' H'' : Hp} {st st' : Sto} {E : En} {env : Env} {σ : L2.St}
theorem Sx.refl : Sx N c H N c H := ⟨fun _ _ h _ => h, fun _ h => .inl h, fun _ _ h => h, fun _ h => .inl h, fun _ h => h, fun _ _ h => h⟩
theorem Ex.sx (x : Ex N c H N' c' H') (W : Wd mg N c H st) (W' : Wd mg N' c' H' st') : Sx N c H N' c' H' := ⟨fun a o h n => x.keep a o h fun z => n (W.cn a z), x.new, x.pre, x.newc, fun a h => x.free W W' h, fun a vs h => x.keep a _ h (W.ntup h)⟩
theorem Sx.nn (x : Sx N c H N' c' H') {a : Addr} {o : HO} (h : H a = some o) (n : ¬ N a) : ¬ N' a := fun z => (x.new a z).elim n fun e => by rw [h] at e; cases e
theorem Sx.trans (x : Sx N c H N' c' H') (y : Sx N' c' H' N'' c'' H'') : Sx N c H N'' c'' H'' where
  keep := fun a o h n => y.keep a o (x.keep a o h n) (x.nn h n)
  new := fun a z => (y.new a z).elim (x.new a) fun e => .inr (x.trk a e)
  pre := fun k a h => y.pre k a (x.pre k a h)
  newc := fun a z => (y.newc a z).elim (x.newc a) fun e => .inr (x.trk a e)
  trk := fun a h => x.trk a (y.trk a h)
  tup := fun a vs h => y.tup a vs (x.tup a vs h)
theorem Sx.tr (x : Sx N c H N' c' H') : Tr N c H N' c' H' := ⟨x.keep, x.new, x.pre, x.tup⟩
/-- the end of a def, from data of the frame -/
theorem Rel.fin {v : V} {d : D} (R : Rel mg E N c env st σ H) (r : Rep mg N c H v d) : Fin mg E c st H v d := by
  have less : ∀ a, (E.N0 a ∨ a ∈ c) → N a := fun a z => z.elim (R.n0 a) (R.wd.cn a)
  exact ⟨R.wd.less less fun a z => .inr z, r.tr (Tr.less less), R.base, R.pre, R.newc⟩
end

/-! ### setting a slot -/
section
variable {mg : Glob} {N N' : Prot} {c c' : List Addr} {H H' : Hp} {st st' : Sto} {E : En} {env : Env} {σ : L2.St}
theorem get_set {α : Type} {l : List α} {i j : Nat} {x y : α} (h : (l.set i x)[j]? = some y) : (i = j ∧ y = x) ∨ (i ≠ j ∧ l[j]? = some y) := by
  by_cases e : i = j
  · subst e
    by_cases hl : i < l.length
    · rw [List.getElem?_set_self hl] at h
      cases h
      exact .inl ⟨rfl, rfl⟩
    · rw [List.getElem?_eq_none (by simpa using hl)] at h
      cases h
  · rw [List.getElem?_set_ne e] at h
    exact .inr ⟨e, h⟩
/-- a slot gets a new content that is not the frame's own -/
theorem Rel.set {i : Nat} {s : Sl} {v : V} (R : Rel mg E N c env st σ H) (hs : s.isOwn = false) (h : SlR mg N c H s (some v)) : Rel mg E N c (env.set i s) st (σ.set i (some v)) H where
  len := by rw [List.length_set, List.length_set]; exact R.len
  sl := fun j s' e => by
    rcases get_set e with ⟨rfl, rfl⟩ | ⟨ne, e⟩
    · have hl : i < σ.length := by
        rw [R.len]
        have := (List.getElem?_eq_some_iff.mp e).1
        simpa using this
      rw [List.getElem?_set_self hl]
      exact h
    · rw [List.getElem?_set_ne ne]
      exact R.sl j s' e
  own := fun j s' a e ho es => by
    rcases get_set e with ⟨rfl, rfl⟩ | ⟨ne, e⟩
    · rw [hs] at ho; cases ho
    · rw [List.getElem?_set_ne ne] at es
      exact R.own j s' a e ho es
  inj := fun j k s1 s2 a e1 o1 e2 o2 h1 h2 => by
    rcases get_set e1 with ⟨rfl, rfl⟩ | ⟨n1, e1⟩
    · rw [hs] at o1; cases o1
    · rcases get_set e2 with ⟨rfl, rfl⟩ | ⟨n2, e2⟩
      · rw [hs] at o2; cases o2
      · rw [List.getElem?_set_ne n1] at h1
        rw [List.getElem?_set_ne n2] at h2
        exact R.inj j k s1 s2 a e1 o1 e2 o2 h1 h2
  wd := R.wd
  n0 := R.n0
  t0 := R.t0
  base := R.base
  pre := R.pre
  newc := R.newc
  slf := fun j cn ns ds a e es => by
    rcases get_set e with ⟨rfl, rfl⟩ | ⟨ne, e⟩
    · cases hs
    · rw [List.getElem?_set_ne ne] at es
      exact R.slf j cn ns ds a e es
/-- an address that was new ahead of a step is new at the entry, and no slot's own -/
theorem Rel.fresh0 (R : Rel mg E N c env st σ H) {p : Addr} (h : H p = none) : E.H0 p = none := by
  cases q : E.H0 p with
  | none => rfl
  | some o =>
    have : p ∉ c := R.wd.cnone h
    rw [R.base p o q this] at h; cases h
theorem Rel.notOwn (R : Rel mg E N c env st σ H) {p : Addr} (h : H p = none) : ∀ (j : Nat) s, env[j]? = some s → s.isOwn = true → σ[j]? ≠ some (some (.ref p)) := fun j s e ho z => by
  obtain ⟨n, _⟩ := R.own j s p e ho z
  exact R.wd.trk p n h
theorem Rel.ownNT (R : Rel mg E N c env st σ H) {i : Nat} {s : Sl} {a : Addr} (he : env[i]? = some s) (ho : s.isOwn = true) (hs : σ[i]? = some (some (.ref a))) : ∀ us, H a ≠ some (.tup us) := fun us e => by
  have q := R.sl i s he
  rw [hs] at q
  cases s with
  | un => cases ho
  | val d => cases ho
  | own xs => obtain ⟨b, vs, ev, hb, _⟩ := q; cases ev; rw [e] at hb; cases hb
  | ownI cn ns ds => obtain ⟨b, C, dx, fs, ev, hc, hb, _⟩ := q; cases ev; rw [e] at hb; cases hb
  | ownD ks ds => obtain ⟨b, kvs, ev, hb, _⟩ := q; cases ev; rw [e] at hb; cases hb
  | ownT ks ds => obtain ⟨b, kvs, ev, hb, _⟩ := q; cases ev; rw [e] at hb; cases hb
/-- a list of the frame's own changes -/
theorem Rel.write {i : Nat} {a : Addr} {vs vs' : List V} {xs xs' : List D} (R : Rel mg E N c env st σ H) (he : env[i]? = some (.own xs)) (hs : σ[i]? = some (some (.ref a))) (r : RepL mg N c H vs' xs') :
    Rel mg E N c (env.set i (.own xs')) st σ (upd H a (.lst vs')) ∧ Sx N c H N c (upd H a (.lst vs')) := by
  obtain ⟨na, nc, n0⟩ := R.own i _ a he rfl hs
  obtain ⟨b, us, eb, hb, rb⟩ := R.sl i _ he
  rw [hs] at eb
  cases eb
  have keep : ∀ b o, H b = some o → ¬ N b → (upd H a (.lst vs')) b = some o := fun b o e n => by
    rw [upd_ne (show b ≠ a from fun z => n (z ▸ na))]; exact e
  have tk : ∀ b, (upd H a (.lst vs')) b = none → H b = none := fun b e => by
    by_cases q : b = a
    · rw [q, upd_same] at e; cases e
    · rw [upd_ne q] at e; exact e
  have sx : Sx N c H N c (upd H a (.lst vs')) := ⟨keep, fun _ z => .inl z, fun _ _ z => z, fun _ z => .inl z, tk, fun b us e => by rw [upd_ne (fun z => R.ownNT he rfl hs us (by rw [← z]; exact e))]; exact e⟩
  have il : i < σ.length := (List.getElem?_eq_some_iff.mp hs).1
  have ne_of_own : ∀ (j : Nat) s b, i ≠ j → env[j]? = some s → s.isOwn = true → σ[j]? = some (some (.ref b)) → b ≠ a := fun j s b ne e ho z q => by
    subst q
    exact ne (R.inj i j _ s b he rfl e ho hs z)
  refine ⟨⟨by rw [List.length_set]; exact R.len, fun j s' e => ?_, fun j s' b e ho es => ?_, fun j k s1 s2 b e1 o1 e2 o2 h1 h2 => ?_, ?_, R.n0, R.t0, fun b o e n => ?_, R.pre, R.newc, fun j cn ns ds b e es => (get_set e).elim (fun z => nomatch z.2) fun z => R.slf j cn ns ds b z.2 es⟩, sx⟩
  · rcases get_set e with ⟨rfl, rfl⟩ | ⟨ne, e⟩
    · rw [hs]
      exact ⟨a, vs', rfl, upd_same, r.tr sx.tr⟩
    · have q := R.sl j s' e
      cases s' with
      | un => trivial
      | val d => obtain ⟨v, ev, rv⟩ := q; exact ⟨v, ev, rv.tr sx.tr⟩
      | own ys => obtain ⟨b, us', ev, hb', rv⟩ := q; exact ⟨b, us', ev, by rw [upd_ne (ne_of_own j _ b ne e rfl (join_some ev))]; exact hb', rv.tr sx.tr⟩
      | ownI cn ns ds => obtain ⟨b, C, dx, fs, ev, hc, hb', hn, rv⟩ := q; exact ⟨b, C, dx, fs, ev, hc, by rw [upd_ne (ne_of_own j _ b ne e rfl (join_some ev))]; exact hb', hn, rv.tr sx.tr⟩
      | ownD ks ds => obtain ⟨b, kvs, ev, hb', hn, rv⟩ := q; exact ⟨b, kvs, ev, by rw [upd_ne (ne_of_own j _ b ne e rfl (join_some ev))]; exact hb', hn, rv.tr sx.tr⟩
      | ownT ks ds => obtain ⟨b, kvs, ev, hb', hn, rv⟩ := q; exact ⟨b, kvs, ev, by rw [upd_ne (ne_of_own j _ b ne e rfl (join_some ev))]; exact hb', hn, rv.tr sx.tr⟩
  · rcases get_set e with ⟨rfl, rfl⟩ | ⟨ne, e⟩
    · rw [hs] at es; cases es; exact ⟨na, nc, n0⟩
    · exact R.own j s' b e ho es
  · rcases get_set e1 with ⟨rfl, rfl⟩ | ⟨n1, e1⟩
    · rcases get_set e2 with ⟨rfl, rfl⟩ | ⟨n2, e2⟩
      · rfl
      · exact R.inj _ k _ s2 b he rfl e2 o2 h1 h2
    · rcases get_set e2 with ⟨rfl, rfl⟩ | ⟨n2, e2⟩
      · exact R.inj j _ s1 _ b e1 o1 he rfl h1 h2
      · exact R.inj j k s1 s2 b e1 o1 e2 o2 h1 h2
  · exact ⟨R.wd.len, fun k b ys h1 h2 => by
      obtain ⟨us', hb', rr⟩ := R.wd.sto k b ys h1 h2
      exact ⟨us', by rw [upd_ne (show b ≠ a from fun z => nc (z ▸ List.mem_of_getElem? h1))]; exact hb', rr.tr sx.tr⟩, R.wd.cn, R.wd.nd, fun b z e => R.wd.trk b z (tk b e)⟩
  · have : b ≠ a := fun z => by rw [z, n0] at e; cases e
    rw [upd_ne this]
    exact R.base b o e n
/-- a cell changes -/
theorem Rel.writeCO {k : Nat} {a : Addr} {o' : HO} {xs' : List D} (R : Rel mg E N c env st σ H) (hk : c[k]? = some a) (r : CRep mg N c H o' xs') :
    Rel mg E N c env (st.set k xs') σ (upd H a o') ∧ Sx N c H N c (upd H a o') := by
  have mc : a ∈ c := List.mem_of_getElem? hk
  have na : N a := R.wd.cn a mc
  have keep : ∀ b o, H b = some o → ¬ N b → (upd H a o') b = some o := fun b o e n => by
    rw [upd_ne (show b ≠ a from fun z => n (z ▸ na))]; exact e
  have tk : ∀ b, (upd H a o') b = none → H b = none := fun b e => by
    by_cases q : b = a
    · rw [q, upd_same] at e; cases e
    · rw [upd_ne q] at e; exact e
  have sx : Sx N c H N c (upd H a o') := ⟨keep, fun _ z => .inl z, fun _ _ z => z, fun _ z => .inl z, tk, fun b us e => by rw [upd_ne (fun z => R.wd.ntup (by rw [← z]; exact e) mc)]; exact e⟩
  have ne_of_own : ∀ (j : Nat) s b, env[j]? = some s → s.isOwn = true → σ[j]? = some (some (.ref b)) → b ≠ a := fun j s b e ho z q => by
    subst q
    exact (R.own j s b e ho z).2.1 mc
  refine ⟨⟨R.len, fun j s' e => ?_, R.own, R.inj, ?_, R.n0, R.t0, fun b o e n => ?_, R.pre, R.newc, R.slf⟩, sx⟩
  · have q := R.sl j s' e
    cases s' with
    | un => trivial
    | val d => obtain ⟨v, ev, rv⟩ := q; exact ⟨v, ev, rv.tr sx.tr⟩
    | own ys => obtain ⟨b, us', ev, hb', rv⟩ := q; exact ⟨b, us', ev, by rw [upd_ne (ne_of_own j _ b e rfl (join_some ev))]; exact hb', rv.tr sx.tr⟩
    | ownI cn ns ds => obtain ⟨b, C, dx, fs, ev, hc, hb', hn, rv⟩ := q; exact ⟨b, C, dx, fs, ev, hc, by rw [upd_ne (ne_of_own j _ b e rfl (join_some ev))]; exact hb', hn, rv.tr sx.tr⟩
    | ownD ks ds => obtain ⟨b, kvs, ev, hb', hn, rv⟩ := q; exact ⟨b, kvs, ev, by rw [upd_ne (ne_of_own j _ b e rfl (join_some ev))]; exact hb', hn, rv.tr sx.tr⟩
    | ownT ks ds => obtain ⟨b, kvs, ev, hb', hn, rv⟩ := q; exact ⟨b, kvs, ev, by rw [upd_ne (ne_of_own j _ b e rfl (join_some ev))]; exact hb', hn, rv.tr sx.tr⟩
  · refine ⟨by rw [List.length_set]; exact R.wd.len, fun j b ys h1 h2 => ?_, R.wd.cn, R.wd.nd, fun b z e => R.wd.trk b z (tk b e)⟩
    rcases get_set h2 with ⟨rfl, rfl⟩ | ⟨ne, h2⟩
    · rw [hk] at h1
      cases h1
      exact ⟨_, upd_same, r.tr sx.tr⟩
    · obtain ⟨us', hb', rr⟩ := R.wd.sto j b ys h1 h2
      have : b ≠ a := fun z => by
        subst z
        obtain ⟨i1, j1⟩ := List.getElem?_eq_some_iff.mp hk
        obtain ⟨i2, j2⟩ := List.getElem?_eq_some_iff.mp h1
        exact ne ((List.getElem_inj R.wd.nd).mp (j1.trans j2.symm))
      exact ⟨us', by rw [upd_ne this]; exact hb', rr.tr sx.tr⟩
  · have : b ≠ a := fun z => n (z ▸ mc)
    rw [upd_ne this]
    exact R.base b o e n
theorem Rel.writeC {k : Nat} {a : Addr} {vs' : List V} {xs' : List D} (R : Rel mg E N c env st σ H) (hk : c[k]? = some a) (r : RepL mg N c H vs' xs') :
    Rel mg E N c env (st.set k xs') σ (upd H a (.lst vs')) ∧ Sx N c H N c (upd H a (.lst vs')) := R.writeCO hk (.l r)
/-- a list of the frame's own is data from now on -/
def frz (i : Nat) (env : Env) : Env := match env[i]? with
  | some (.own xs) => env.set i (.val (.lst xs))
  | some (.ownD ks xs) => env.set i (.val (.dic ks xs))
  | _ => env
theorem Rel.frz {i : Nat} (R : Rel mg E N c env st σ H) : ∃ N', Rel mg E N' c (LW.frz i env) st σ H ∧ Sx N c H N' c H := by
  unfold LW.frz
  split
  · rename_i xs he
    obtain ⟨a, vs, es, ha, r⟩ := R.sl i _ he
    have es := join_some es
    obtain ⟨na, nc, n0⟩ := R.own i _ a he rfl es
    have less : ∀ b, (N b ∧ b ≠ a) → N b := fun b z => z.1
    have tr : Tr N c H (fun b => N b ∧ b ≠ a) c H := Tr.less less
    have il : i < env.length := (List.getElem?_eq_some_iff.mp he).1
    refine ⟨fun b => N b ∧ b ≠ a, ⟨by rw [List.length_set]; exact R.len, fun j s' e => ?_, fun j s' b e ho z => ?_, fun j k s1 s2 b e1 o1 e2 o2 h1 h2 => ?_, R.wd.less less fun b z => ⟨R.wd.cn b z, fun q => nc (q ▸ z)⟩, fun b z => ⟨R.n0 b z, fun q => R.t0 b z (by rw [q]; exact n0)⟩, R.t0, R.base, R.pre, R.newc, fun j cn ns ds b e z => (get_set e).elim (fun q => nomatch q.2) fun q => R.slf j cn ns ds b q.2 z⟩, ⟨fun _ _ e _ => e, fun b z => .inl z.1, fun _ _ z => z, fun _ z => .inl z, fun _ z => z, fun _ _ z => z⟩⟩
    · rcases get_set e with ⟨rfl, rfl⟩ | ⟨ne, e⟩
      · rw [es]
        exact ⟨.ref a, rfl, .lst ha (fun z => z.2 rfl) (r.tr tr)⟩
      · have q := R.sl j s' e
        cases s' with
        | un => trivial
        | val d => obtain ⟨v, ev, rv⟩ := q; exact ⟨v, ev, rv.tr tr⟩
        | own ys => obtain ⟨b, us', ev, hb', rv⟩ := q; exact ⟨b, us', ev, hb', rv.tr tr⟩
        | ownI cn ns ds => obtain ⟨b, C, dx, fs, ev, hc, hb', hn, rv⟩ := q; exact ⟨b, C, dx, fs, ev, hc, hb', hn, rv.tr tr⟩
        | ownD ks ds => obtain ⟨b, kvs, ev, hb', hn, rv⟩ := q; exact ⟨b, kvs, ev, hb', hn, rv.tr tr⟩
        | ownT ks ds => obtain ⟨b, kvs, ev, hb', hn, rv⟩ := q; exact ⟨b, kvs, ev, hb', hn, rv.tr tr⟩
    · rcases get_set e with ⟨rfl, rfl⟩ | ⟨ne, e⟩
      · cases ho
      · obtain ⟨z1, z2, z3⟩ := R.own j s' b e ho z
        refine ⟨⟨z1, fun q => ?_⟩, z2, z3⟩
        subst q
        exact ne (R.inj i j _ s' b he rfl e ho es z)
    · rcases get_set e1 with ⟨rfl, rfl⟩ | ⟨n1, e1⟩
      · cases o1
      · rcases get_set e2 with ⟨rfl, rfl⟩ | ⟨n2, e2⟩
        · cases o2
        · exact R.inj j k s1 s2 b e1 o1 e2 o2 h1 h2
  · rename_i ks xs he
    obtain ⟨a, kvs, es, ha, hm, r⟩ := R.sl i _ he
    have es := join_some es
    obtain ⟨na, nc, n0⟩ := R.own i _ a he rfl es
    have less : ∀ b, (N b ∧ b ≠ a) → N b := fun b z => z.1
    have tr : Tr N c H (fun b => N b ∧ b ≠ a) c H := Tr.less less
    have il : i < env.length := (List.getElem?_eq_some_iff.mp he).1
    refine ⟨fun b => N b ∧ b ≠ a, ⟨by rw [List.length_set]; exact R.len, fun j s' e => ?_, fun j s' b e ho z => ?_, fun j k s1 s2 b e1 o1 e2 o2 h1 h2 => ?_, R.wd.less less fun b z => ⟨R.wd.cn b z, fun q => nc (q ▸ z)⟩, fun b z => ⟨R.n0 b z, fun q => R.t0 b z (by rw [q]; exact n0)⟩, R.t0, R.base, R.pre, R.newc, fun j cn ns ds b e z => (get_set e).elim (fun q => nomatch q.2) fun q => R.slf j cn ns ds b q.2 z⟩, ⟨fun _ _ e _ => e, fun b z => .inl z.1, fun _ _ z => z, fun _ z => .inl z, fun _ z => z, fun _ _ z => z⟩⟩
    · rcases get_set e with ⟨rfl, rfl⟩ | ⟨ne, e⟩
      · rw [es]
        exact ⟨.ref a, rfl, .dic ha (fun z => z.2 rfl) hm (r.tr tr)⟩
      · have q := R.sl j s' e
        cases s' with
        | un => trivial
        | val d => obtain ⟨v, ev, rv⟩ := q; exact ⟨v, ev, rv.tr tr⟩
        | own ys => obtain ⟨b, us', ev, hb', rv⟩ := q; exact ⟨b, us', ev, hb', rv.tr tr⟩
        | ownI cn ns ds => obtain ⟨b, C, dx, fs, ev, hc, hb', hn, rv⟩ := q; exact ⟨b, C, dx, fs, ev, hc, hb', hn, rv.tr tr⟩
        | ownD ks ds => obtain ⟨b, kvs, ev, hb', hn, rv⟩ := q; exact ⟨b, kvs, ev, hb', hn, rv.tr tr⟩
        | ownT ks ds => obtain ⟨b, kvs, ev, hb', hn, rv⟩ := q; exact ⟨b, kvs, ev, hb', hn, rv.tr tr⟩
    · rcases get_set e with ⟨rfl, rfl⟩ | ⟨ne, e⟩
      · cases ho
      · obtain ⟨z1, z2, z3⟩ := R.own j s' b e ho z
        refine ⟨⟨z1, fun q => ?_⟩, z2, z3⟩
        subst q
        exact ne (R.inj i j _ s' b he rfl e ho es z)
    · rcases get_set e1 with ⟨rfl, rfl⟩ | ⟨n1, e1⟩
      · cases o1
      · rcases get_set e2 with ⟨rfl, rfl⟩ | ⟨n2, e2⟩
        · cases o2
        · exact R.inj j k s1 s2 b e1 o1 e2 o2 h1 h2
  · exact ⟨N, R, Sx.refl⟩
end
end LW

/-! LwI: statements by plain functions. -/
namespace LW
open PySem L2 PyProof.Rows

def PostS (mg : Glob) (E : En) (N : Prot) (c : List Addr) (H : Hp) (De : Ends) (o : Out) (st' : Sto) : Prop := match o with
  | .nx env' => ∀ N' c' σ' H', Sx N c H N' c' H' → Rel mg E N' c' env' st' σ' H' → De.nx σ' H'
  | .bk env' => ∀ N' c' σ' H', Sx N c H N' c' H' → Rel mg E N' c' env' st' σ' H' → De.bk σ' H'
  | .ct env' => ∀ N' c' σ' H', Sx N c H N' c' H' → Rel mg E N' c' env' st' σ' H' → De.ct σ' H'
  | .rt d => ∀ c' H' v, Fin mg E c' st' H' v d → De.rt v H'
theorem tS_def {mg : Glob} {f : SS} {De : Ends} {σ : L2.St} {H : Hp} : tS mg f De σ H ↔ ∃ (E : En) (N : Prot) (c : List Addr) (env : Env) (st : Sto) (o : Out) (st' : Sto), Rel mg E N c env st σ H ∧ f env st = some (o, st') ∧ PostS mg E N c H De o st' := Iff.rfl
section
variable {mg : Glob} {E : En} {N N' : Prot} {c c' : List Addr} {H H' : Hp} {De : Ends} {o : Out} {st st' : Sto} {env env' : Env} {σ : L2.St}
theorem PostS.from (x : Sx N c H N' c' H') (p : PostS mg E N c H De o st') : PostS mg E N' c' H' De o st' := by
  cases o with
  | nx e => exact fun N2 c2 σ2 H2 x2 R2 => p N2 c2 σ2 H2 (x.trans x2) R2
  | bk e => exact fun N2 c2 σ2 H2 x2 R2 => p N2 c2 σ2 H2 (x.trans x2) R2
  | ct e => exact fun N2 c2 σ2 H2 x2 R2 => p N2 c2 σ2 H2 (x.trans x2) R2
  | rt d => exact p
end
def sNil : SS := fun env st => some (.nx env, st)
def sSeq (f g : SS) : SS := fun env st => match f env st with
  | some (.nx e, s1) => g e s1
  | some (.rt d, s1) => some (.rt d, s1)
  | some (.bk e, s1) => some (.bk e, s1)
  | some (.ct e, s1) => some (.ct e, s1)
  | none => none
def sRet (f : SE) : SS := fun env st => match f env st with
  | some (d, s1) => some (.rt d, s1)
  | none => none
def sDrop (f : SE) : SS := fun env st => match f env st with
  | some (_, s1) => some (.nx env, s1)
  | none => none
def sSet (i : Nat) (f : SE) : SS := fun env st => match f env st with
  | some (d, s1) => some (.nx (env.set i (.val d)), s1)
  | none => none
def sOwn (i : Nat) (f : Fx (List D)) : SS := fun env st => match f env st with
  | some (xs, s1) => some (.nx (env.set i (.own xs)), s1)
  | none => none
def sIf (t : SB) (f g : SS) : SS := fun env st => match t env st with
  | some (true, s1) => f env s1
  | some (false, s1) => g env s1
  | none => none
/-- ahead of the rest a list of the frame's own becomes data -/
def sFrz (i : Nat) (f : SS) : SS := fun env st => f (frz i env) st
section
variable {mg : Glob} {X : Cx} {s : Stmt} {rest : List Stmt} {e : Expr} {pos : Pos} {f g : SS} {fe : SE} {fl : Fx (List D)} {t : SB}
theorem s_nil : PSs X [] (tS mg sNil) := pss_weak pss_nil fun De σ H h => by
  obtain ⟨E, N, c, env, st, o, st', R, q, p⟩ := tS_def.mp h
  cases q
  exact p N c σ H Sx.refl R
theorem s_cons (h1 : PS X s (tS mg f)) (h2 : PSs X rest (tS mg g)) : PSs X (s :: rest) (tS mg (sSeq f g)) := pss_weak (pss_cons h1 h2) fun De σ H h => by
  obtain ⟨E, N, c, env, st, o, st', R, q, p⟩ := tS_def.mp h
  unfold sSeq at q
  split at q
  · rename_i e1 s1 q1
    refine tS_def.mpr ⟨E, N, c, env, st, .nx e1, s1, R, q1, fun N1 c1 σ1 H1 x1 R1 => ?_⟩
    exact tS_def.mpr ⟨E, N1, c1, e1, s1, o, st', R1, q, p.from x1⟩
  · rename_i d s1 q1
    cases q
    exact tS_def.mpr ⟨E, N, c, env, st, _, _, R, q1, p⟩
  · rename_i d s1 q1
    cases q
    exact tS_def.mpr ⟨E, N, c, env, st, _, _, R, q1, p⟩
  · rename_i d s1 q1
    cases q
    exact tS_def.mpr ⟨E, N, c, env, st, _, _, R, q1, p⟩
  · cases q
theorem s_one (h1 : PS X s (tS mg f)) : PSs X [s] (tS mg f) := pss_one h1
theorem s_ret (he : PE X e (tE mg fe)) : PS X (.Return (some e) pos) (tS mg (sRet fe)) := ps_weak (ps_ret he) fun De σ H h => by
  obtain ⟨E, N, c, env, st, o, st', R, q, p⟩ := tS_def.mp h
  unfold sRet at q
  split at q
  · rename_i d s1 q1
    cases q
    exact ⟨E, N, c, env, st, _, _, R, q1, fun v N' c' H' x W r => p c' H' v ((R.ex x W).fin r)⟩
  · cases q
theorem s_set {i : Nat} {x : Str} {pos' : Pos} (hN : X.N.Nodup) (he : PE X e (tE mg fe)) (hi : X.N[i]? = some x := by rfl) (hx : Loc X.env.scope x := by first | exact Or.inl rfl | exact Or.inr rfl) (hs : swapsWith e (some (.Name x pos')) pos.line X.env = pure false := by rfl) (hf : X.fn x = true ∨ X.env.scope.names.lookup x = some .local := by first | exact .inl rfl | exact .inr rfl) :
    PS X (.Assign [.Name x pos'] e pos) (tS mg (sSet i fe)) := ps_weak (ps_set hN hi hx he hs hf) fun De σ H h => by
  obtain ⟨E, N, c, env, st, o, st', R, q, p⟩ := tS_def.mp h
  unfold sSet at q
  split at q
  · rename_i d s1 q1
    cases q
    exact ⟨E, N, c, env, st, _, _, R, q1, fun v N' c' H' x W r => p N' c' _ H' (x.sx R.wd W) ((R.ex x W).set rfl ⟨v, rfl, r⟩)⟩
  · cases q
theorem s_if {c : Expr} {a b : List Stmt} (hc : PT X c (tT mg t)) (ha : PSs X a (tS mg f)) (hb : PSs X b (tS mg g)) : PS X (.If c a b pos) (tS mg (sIf t f g)) := ps_weak (ps_if hc ha hb) fun De σ H h => by
  obtain ⟨E, N, c, env, st, o, st', R, q, p⟩ := tS_def.mp h
  unfold sIf at q
  split at q
  · rename_i s1 q1
    exact ⟨E, N, c, env, st, true, s1, R, q1, fun N1 c1 H1 x1 W1 => iteT (tS_def.mpr ⟨E, N1, c1, env, s1, o, st', R.ex x1 W1, q, p.from (x1.sx R.wd W1)⟩)⟩
  · rename_i s1 q1
    exact ⟨E, N, c, env, st, false, s1, R, q1, fun N1 c1 H1 x1 W1 => iteF (tS_def.mpr ⟨E, N1, c1, env, s1, o, st', R.ex x1 W1, q, p.from (x1.sx R.wd W1)⟩)⟩
  · cases q
end

/-! ### lists of the frame's own and cells, changed -/
def sApp (i : Nat) (f : SE) : SS := fun env st => match f env st with
  | some (d, s1) => match env[i]? with
    | some (.own xs) => if xs.length < 1000000 then some (.nx (env.set i (.own (xs ++ [d]))), s1) else none
    | _ => none
  | none => none
def sAppC (fo f : SE) : SS := fun env st => match fo env st with
  | some (.cell k, s1) => match lcG s1 k with
    | some _ => match f env s1 with
      | some (d, s2) => match lcG s2 k with
        | some xs => if xs.length < 1000000 then some (.nx env, s2.set k (xs ++ [d])) else none
        | none => none
      | none => none
    | none => none
  | _ => none
def sPutC (fo fj fe : SE) : SS := fun env st => match fe env st with
  | some (d, s1) => match fo env s1 with
    | some (.cell k, s2) => match fj env s2 with
      | some (.int j, s3) => match lcG s3 k with
        | some xs => match ixN xs.length j with
          | some n => some (.nx env, s3.set k (xs.set n d))
          | none => none
        | none => none
      | _ => none
    | _ => none
  | none => none
theorem sz7 {n : Nat} (h : n < 1000000) : n < sizeLine := Nat.lt_trans h (by decide)
section
variable {mg : Glob} {X : Cx} {e o ej : Expr} {pos apos cpos tpos : Pos} {fe fo fj : SE}
theorem s_appC (ho : PE X o (tE mg fo)) (he : PE X e (tE mg fe)) (hs : swapsWith (.Call (.Attribute o "append" apos) [e] [] cpos) none pos.line X.env = pure false := by rfl)
    (hbase : attributeBase o "append" X.env (eval o X.env) = eval o X.env := by rfl)
    (hfew : ((backTo cpos (starEach [e] X.env)).all (fun x => !x.1) && (backToKw cpos (keywordEach [] X.env)).all (fun x => x.1.isSome)
      && decide ([e].length + ([] : List Keyword).length + (if ([] : List Keyword).isEmpty then 0 else 1) < 30)) = true := by rfl)
    (hline : (apos.endLine == cpos.line) = true := by rfl) (hst : starEach [e] X.env = (false, eval e X.env) :: starEach [] X.env := by rfl) (hplain : (backTo cpos (starEach [] X.env)).any (·.1) = false := by rfl) :
    PS X (.Expr (.Call (.Attribute o "append" apos) [e] [] cpos) pos) (tS mg (sAppC fo fe)) :=
  ps_weak (ps_expr (pe_bm PySem.F.plainAttrs_list PySem.F.slot_list_append PySem.F.type_list_append mt_append ho (pa_cons he pa_nil hst) hbase hfew hline hst hplain) hs) fun De σ H h => by
    obtain ⟨E, N, c, env, st, o, st', R, q, p⟩ := tS_def.mp h
    unfold sAppC at q
    split at q
    · rename_i k s1 q1
      split at q
      · rename_i ys hy
        split at q
        · rename_i d s2 q2
          split at q
          · rename_i xs hx
            split at q
            · rename_i hl
              cases q
              refine ⟨E, N, c, env, st, _, s1, R, q1, fun v N1 c1 H1 x1 W1 r1 => ?_⟩
              cases r1 with
              | cell hk =>
                rename_i a
                obtain ⟨vs, ha, rr⟩ := W1.lstC hk hy
                refine ⟨.inl ⟨rfl, vs, SqL.of ha⟩, E, N1, c1, env, s1, d, s2, R.ex x1 W1, q2, fun w N2 c2 H2 x2 W2 r2 => ?_⟩
                have x12 := x1.trans x2 R.wd
                have R2 := R.ex x12 W2
                have hk2 := x2.pre k a hk
                obtain ⟨us, hb, r3⟩ := W2.lstC hk2 hx
                have wr := R2.writeC hk2 (r3.append (.cons r2 .nil))
                exact ⟨a, us, w, rfl, rfl, hb, by rw [r3.length]; exact sz7 hl, p N2 c2 σ _ ((x12.sx R.wd W2).trans wr.2) wr.1⟩
            · cases q
          · cases q
        · cases q
      · cases q
    · cases q
theorem s_putC (he : PE X e (tE mg fe)) (ho : PE X o (tE mg fo)) (hj : PE X ej (tP mg fj)) (ha : ∀ v, assign (.Subscript o ej tpos) X.env v = (do
      let ov ← holding [v] (eval o X.env)
      let iv ← holding [v, ov] (eval ej X.env)
      standAt tpos
      holding [v, ov, iv] (setItem ov iv v)
      release [v, ov, iv] []) := by intro _; rfl) (hs : swapsWithSole [.Subscript o ej tpos] e pos.line X.env = pure false := by rfl) (hw : swappedStores [.Subscript o ej tpos] e X.env = pure none := by rfl)
    (h1 : (assignEach [.Subscript o ej tpos] X.env).map (·.2) = [assign (.Subscript o ej tpos) X.env] := by rfl) : PS X (.Assign [.Subscript o ej tpos] e pos) (tS mg (sPutC fo fj fe)) :=
  ps_weak (ps_asg he (pg_sub ho hj set_list ha) hs hw h1) fun De σ H h => by
    obtain ⟨E, N, c, env, st, o, st', R, q, p⟩ := tS_def.mp h
    unfold sPutC at q
    split at q
    · rename_i d s1 q1
      split at q
      · rename_i k s2 q2
        split at q
        · rename_i j s3 q3
          split at q
          · rename_i xs hx
            split at q
            · rename_i n hn
              cases q
              refine ⟨E, N, c, env, st, d, s1, R, q1, fun v N1 c1 H1 x1 W1 r1 => ?_⟩
              refine ⟨E, N1, c1, env, s1, _, s2, R.ex x1 W1, q2, fun w N2 c2 H2 x2 W2 r2 => ?_⟩
              have x12 := x1.trans x2 R.wd
              cases r2 with
              | cell hk =>
                rename_i a
                refine ⟨E, N2, c2, env, s2, _, s3, R.ex x12 W2, q3, fun z N3 c3 H3 x3 W3 r3 => ?_⟩
                have x13 := x12.trans x3 R.wd
                have R3 := R.ex x13 W3
                have hk3 := x3.pre k a hk
                obtain ⟨us, hb, r4⟩ := W3.lstC hk3 hx
                have rv : Rep mg N3 c3 H3 v d := Rep.tr (x3.tr W2) (Rep.tr (x2.tr W1) r1)
                have wr := R3.writeC hk3 (r4.set rv n)
                exact ⟨a, us, j, n, rfl, r3.int, hb, by rw [r4.length]; exact hn, p N3 c3 σ _ ((x13.sx R.wd W3).trans wr.2) wr.1⟩
            · cases q
          · cases q
        · cases q
      · cases q
    · cases q
end

/-! ### several targets -/
def setAll : List Nat → List D → Env → Option Env
  | [], [], env => some env
  | i :: is, d :: ds, env => setAll is ds (env.set i (.val d))
  | _, _, _ => none
section
variable {mg : Glob} {X : Cx} {e : Expr} {es : List Expr} {pos : Pos} {fe : SE}
/-- (a, b, ..) = e -/
def sUnp (is : List Nat) (f : SE) : SS := fun env st => match f env st with
  | some (.tup ds, s1) => match setAll is ds env with
    | some env' => some (.nx env', s1)
    | none => none
  | _ => none
end
end LW

/-! LwJ: what is walked; for; list comprehensions. -/
namespace LW
open PySem L2 PyProof.Rows

/-- what is walked: the items, and what must stay true of the cells meanwhile -/
abbrev Src := List D × (Sto → Bool)
def noChk : Sto → Bool := fun _ => true
/-- the iterator J yields the items xs, from a state on, as long as what is not protected stays -/
structure ItL (mg : Glob) (J : It) (xs : Src) (N1 : Prot) (c1 : List Addr) (H1 : Hp) : Prop where
  stop : ∀ N c H st, Sx N1 c1 H1 N c H → Wd mg N c H st → xs.2 st = true → J.stop xs.1.length H
  go : ∀ (i : Nat) N c H st, i < xs.1.length → Sx N1 c1 H1 N c H → Wd mg N c H st → xs.2 st = true → J.go i H
  yld : ∀ (i : Nat) N c H st x H', i < xs.1.length → Sx N1 c1 H1 N c H → Wd mg N c H st → xs.2 st = true → J.yld i H x H' → ∃ d, xs.1[i]? = some d ∧ Ex N c H N c H' ∧ Wd mg N c H' st ∧ Rep mg N c H' x d
def tI (mg : Glob) (f : Fx Src) : TI := fun σ H R => ∃ (E : En) (N : Prot) (c : List Addr) (env : Env) (st : Sto) (xs : Src) (st' : Sto), Rel mg E N c env st σ H ∧ f env st = some (xs, st') ∧
  ∀ J N' c' H', Ex N c H N' c' H' → Wd mg N' c' H' st' → ItL mg J xs N' c' H' → R J H'
/-- a target: asg sets the slots is -/
def Dif (is : List Nat) (σ σ' : L2.St) : Prop := ∀ vs : List Nat, (∀ i ∈ is, i ∈ vs) → wipe σ' vs = wipe σ vs
def GOk (mg : Glob) (g : TG) (asg : D → Env → Option Env) (is : List Nat) : Prop := ∀ (E : En) (N : Prot) (c : List Addr) (env env' : Env) (st : Sto) (σ : L2.St) (H : Hp) (v : V) (d : D) (Q : L2.St → Hp → Prop), Rel mg E N c env st σ H → Rep mg N c H v d → asg d env = some env' →
  (∀ σ', Rel mg E N c env' st σ' H → Dif is σ σ' → Q σ' H) → g v σ H Q
def asgN (i : Nat) : D → Env → Option Env := fun d env => some (env.set i (.val d))
section
variable {mg : Glob}
theorem wipe_set : ∀ {vs : List Nat} {σ : L2.St} {i : Nat} {y : Option V}, i ∈ vs → wipe (σ.set i y) vs = wipe σ vs
  | [], _, _, _, h => by cases h
  | v :: vs, σ, i, y, h => by
    unfold wipe
    by_cases e : i ∈ vs
    · rw [wipe_set e]
    · have ev : i = v := (List.mem_cons.mp h).elim (fun z => z) fun z => absurd z e
      subst ev
      have : ∀ (us : List Nat), i ∉ us → wipe (σ.set i y) us = (wipe σ us).set i y := by
        intro us
        induction us with
        | nil => intro _; rfl
        | cons u us ih =>
          intro hu
          rw [List.mem_cons, not_or] at hu
          unfold wipe
          rw [ih hu.2, List.set_comm _ _ hu.1]
      rw [this vs e, List.set_set]
theorem gok_name (i : Nat) : GOk mg (gName i) (asgN i) [i] := by
  intro E N c env env' st σ H v d Q R r e k
  cases e
  exact k _ (R.set (s := .val d) rfl ⟨v, rfl, r⟩) fun vs h => wipe_set (h i (by simp))
end

/-! ### for -/
def loopM (chk : Sto → Bool) (asg : D → Env → Option Env) (body : SS) : List D → Env → Sto → Option (Out × Sto)
  | [], env, st => if chk st = true then some (.nx env, st) else none
  | d :: ds, env, st => if chk st = true then (match asg d env with
    | none => none
    | some e1 => match body e1 st with
      | some (.nx e2, s2) => loopM chk asg body ds e2 s2
      | some (.ct e2, s2) => loopM chk asg body ds e2 s2
      | some (.bk e2, s2) => some (.nx e2, s2)
      | some (.rt d, s2) => some (.rt d, s2)
      | none => none) else none
def sFor (fi : Fx Src) (asg : D → Env → Option Env) (body : SS) : SS := fun env st => match fi env st with
  | none => none
  | some (xs, s1) => loopM xs.2 asg body xs.1 env s1
section
variable {mg : Glob} {X : Cx} {tg iter : Expr} {body : List Stmt} {pos : Pos} {fi : Fx Src} {asg : D → Env → Option Env} {fb : SS} {g : TG} {is : List Nat}
theorem r_for (hg : GOk mg g asg is) {De : Ends} {σ : L2.St} {H : Hp} (h : tS mg (sFor fi asg fb) De σ H) : tFor (tI mg fi) g (tS mg fb) De σ H := by
  obtain ⟨E, N, c, env, st, o, st', R, q, p⟩ := tS_def.mp h
  unfold sFor at q
  split at q
  · cases q
  · rename_i src s1 q1
    obtain ⟨xs, chk⟩ := src
    refine ⟨E, N, c, env, st, (xs, chk), s1, R, q1, fun J N1 c1 H1 x1 W1 il => ?_⟩
    have R1 := R.ex x1 W1
    have sx1 := x1.sx R.wd W1
    refine ⟨fun i m σ' H' => m = xs.length - i ∧ i ≤ xs.length ∧ ∃ N' c' env' st2, Sx N1 c1 H1 N' c' H' ∧ Rel mg E N' c' env' st2 σ' H' ∧ loopM chk asg fb (xs.drop i) env' st2 = some (o, st'),
      ⟨xs.length, by omega, Nat.zero_le _, N1, c1, env, s1, Sx.refl, R1, by rw [List.drop_zero]; exact q⟩, ?_⟩
    rintro i m σ' H' ⟨rfl, hi, N', c', env', st2, sx, R', ql⟩
    by_cases hlt : i < xs.length
    · have ed : xs.drop i = xs[i] :: xs.drop (i + 1) := List.drop_eq_getElem_cons hlt
      rw [ed] at ql
      unfold loopM at ql
      split at ql
      · rename_i hck
        refine .inr ⟨il.go i N' c' H' st2 hlt sx R'.wd hck, fun σ3 H3 => ∃ N3 c3 env3 st3, Sx N1 c1 H1 N3 c3 H3 ∧ Rel mg E N3 c3 env3 st3 σ3 H3 ∧ loopM chk asg fb (xs.drop (i + 1)) env3 st3 = some (o, st'), fun σ3 H3 z => ?_, fun x H2 y => ?_⟩
        · exact ⟨xs.length - (i + 1), by omega, rfl, hlt, z⟩
        · obtain ⟨d, hd, x2, W2, r2⟩ := il.yld i N' c' H' st2 x H2 hlt sx R'.wd hck y
          have ed2 : xs[i] = d := by
            obtain ⟨_, e⟩ := List.getElem?_eq_some_iff.mp hd
            exact e
          rw [ed2] at ql
          split at ql
          · cases ql
          · rename_i e1 ha
            have R2 := R'.ex x2 W2
            have sx2 := sx.trans (x2.sx R'.wd W2)
            refine hg E N' c' env' e1 st2 σ' H2 x d _ R2 r2 ha fun σ4 R4 _ => ?_
            split at ql
            · rename_i e2 s2 qb
              exact tS_def.mpr ⟨E, N', c', e1, st2, .nx e2, s2, R4, qb, fun N5 c5 σ5 H5 x5 R5 => ⟨N5, c5, e2, s2, sx2.trans x5, R5, ql⟩⟩
            · rename_i e2 s2 qb
              exact tS_def.mpr ⟨E, N', c', e1, st2, .ct e2, s2, R4, qb, fun N5 c5 σ5 H5 x5 R5 => ⟨N5, c5, e2, s2, sx2.trans x5, R5, ql⟩⟩
            · rename_i e2 s2 qb
              cases ql
              exact tS_def.mpr ⟨E, N', c', e1, st2, .bk e2, _, R4, qb, fun N5 c5 σ5 H5 x5 R5 => p N5 c5 σ5 H5 (sx1.trans (sx2.trans x5)) R5⟩
            · rename_i d2 s2 qb
              cases ql
              exact tS_def.mpr ⟨E, N', c', e1, st2, .rt d2, _, R4, qb, p⟩
            · cases ql
      · cases ql
    · have e : i = xs.length := by omega
      subst e
      rw [List.drop_length] at ql
      unfold loopM at ql
      split at ql
      · rename_i hck
        cases ql
        exact .inl ⟨il.stop N' c' H' _ sx R'.wd hck, p N' c' σ' H' (sx1.trans sx) R'⟩
      · cases ql
theorem s_for (hp : PassesOwn (model X.prog X.w) X.A X.env X.xe) (hc : X.calm = true) (hi : PI X tg iter (tI mg fi)) (hgg : PG X tg g) (hg : GOk mg g asg is) (hb : PSs X body (tS mg fb)) (hs : ∀ x, foldedSetIterable iter X.env x = pure x := by intro _; rfl) :
    PS X (.For tg iter body [] pos) (tS mg (sFor fi asg fb)) := ps_weak (ps_for hp hc hi hgg hb hs) fun De σ H h => r_for hg h
/-- the targets: one name; several -/
theorem t_name {i : Nat} {x : Str} {p1 : Pos} (hN : X.N.Nodup) (hi : X.N[i]? = some x := by rfl) (hx : Loc X.env.scope x := by first | exact Or.inl rfl | exact Or.inr rfl) (hf : X.fn x = true ∨ X.env.scope.names.lookup x = some .local := by first | exact .inl rfl | exact .inr rfl) : PG X (.Name x p1) (gName i) := pg_name hN hi hx hf
end

/-! ### sources -/
def iSeq (f : SE) : Fx Src := fun env st => match f env st with
  | some (.lst xs, s1) => some ((xs, noChk), s1)
  | some (.tup xs, s1) => some ((xs, noChk), s1)
  | some (.cell k, s1) => match lstI s1 (.cell k) with
    | some ns => some ((ns.map D.int, fun st => decide (lstI st (.cell k) = some ns)), s1)
    | none => none
  | _ => none
theorem pi_or {X : Cx} {tg it : Expr} {t t' : TI} (h : PI X tg it t) (h' : PI X tg it t') : PI X tg it (fun σ H R => t σ H R ∨ t' σ H R) := ⟨fun pins s σ H R I q => q.elim (h.run pins s σ H R I) (h'.run pins s σ H R I)⟩
section
variable {mg : Glob} {N : Prot} {c : List Addr} {H : Hp} {K : PySem.W.Frag}
theorem il_list {a : Addr} {vs : List V} {xs : List D} (ha : H a = some (.lst vs)) (n : ¬ N a) (r : RepL mg N c H vs xs) : ItL mg (Itl K a) (xs, noChk) N c H where
  stop := fun N' c' H' st sx _ _ => ⟨vs, SqL.of (sx.keep a _ ha n), by rw [r.length]; exact Nat.le_refl _⟩
  go := fun i N' c' H' st hi sx _ _ => by
    obtain ⟨v, hv, _⟩ := r.get (List.getElem?_eq_getElem hi)
    exact ⟨vs, v, SqL.of (sx.keep a _ ha n), hv⟩
  yld := fun i N' c' H' st x H2 hi sx W _ y => by
    obtain ⟨rfl, hy⟩ := y
    obtain ⟨v, hv, rv⟩ := r.get (List.getElem?_eq_getElem hi)
    have e := hy vs (SqL.of (sx.keep a _ ha n))
    rw [hv] at e
    cases e
    exact ⟨xs[i], List.getElem?_eq_getElem hi, Ex.refl, W, rv.tr sx.tr⟩
theorem il_tup {a : Addr} {vs : List V} {xs : List D} (ha : H a = some (.tup vs)) (r : RepL mg N c H vs xs) : ItL mg (Itt K a) (xs, noChk) N c H where
  stop := fun N' c' H' st sx _ _ => ⟨vs, SqT.of (sx.tup a _ ha), by rw [r.length]; exact Nat.le_refl _⟩
  go := fun i N' c' H' st hi sx _ _ => by
    obtain ⟨v, hv, _⟩ := r.get (List.getElem?_eq_getElem hi)
    exact ⟨vs, v, SqT.of (sx.tup a _ ha), hv⟩
  yld := fun i N' c' H' st x H2 hi sx W _ y => by
    obtain ⟨rfl, hy⟩ := y
    obtain ⟨v, hv, rv⟩ := r.get (List.getElem?_eq_getElem hi)
    have e := hy vs (SqT.of (sx.tup a _ ha))
    rw [hv] at e
    cases e
    exact ⟨xs[i], List.getElem?_eq_getElem hi, Ex.refl, W, rv.tr sx.tr⟩
/-- a cell that holds whole numbers, as long as it holds the same -/
theorem il_cell {k : Nat} {a : Addr} {ns : List Int} (hk : c[k]? = some a) : ItL mg (Itl K a) (ns.map D.int, fun st => decide (lstI st (.cell k) = some ns)) N c H := by
  have look : ∀ N' c' H' (st : Sto), Sx N c H N' c' H' → Wd mg N' c' H' st → decide (lstI st (.cell k) = some ns) = true → H' a = some (.lst (ns.map V.int)) := fun N' c' H' st sx W e => by
    have e : (match lcG st k with | some xs => intsOf xs | none => none) = some ns := of_decide_eq_true e
    cases hs : lcG st k with
    | none => rw [hs] at e; cases e
    | some xs =>
      rw [hs] at e
      obtain ⟨vs, ha, r⟩ := W.lstC (sx.pre k a hk) hs
      rw [intsOf_eq e] at r
      rw [r.of_ints] at ha
      exact ha
  refine ⟨fun N' c' H' st sx W e => ⟨_, SqL.of (look N' c' H' st sx W e), by rw [List.length_map, List.length_map]; exact Nat.le_refl _⟩, fun i N' c' H' st hi sx W e => ?_, fun i N' c' H' st x H2 hi sx W e y => ?_⟩
  · rw [List.length_map] at hi
    exact ⟨_, .int ns[i], SqL.of (look N' c' H' st sx W e), by rw [List.getElem?_map, List.getElem?_eq_getElem hi]; rfl⟩
  · rw [List.length_map] at hi
    obtain ⟨rfl, hy⟩ := y
    have e2 := hy _ (SqL.of (look N' c' _ st sx W e))
    rw [List.getElem?_map, List.getElem?_eq_getElem hi] at e2
    cases e2
    exact ⟨.int ns[i], by rw [List.getElem?_map, List.getElem?_eq_getElem hi]; rfl, Ex.refl, W, .int _⟩
/-- a, a + c, a + 2 c .. -/
def rangeD (a s : Int) (n : Nat) : List D := (List.range n).map fun (i : Nat) => .int (a + (i : Int) * s)
theorem rangeD_len {a s : Int} {n : Nat} : (rangeD a s n).length = n := by
  unfold rangeD
  rw [List.length_map, List.length_range]
theorem rangeD_get {a s : Int} {n i : Nat} (h : i < n) : (rangeD a s n)[i]? = some (.int (a + (i : Int) * s)) := by
  unfold rangeD
  rw [List.getElem?_map, List.getElem?_range h]
  rfl
theorem il_range {lo : Int} {n : Nat} : ItL mg (Itr lo n) (rangeD lo 1 n, noChk) N c H where
  stop := fun N' c' H' st sx _ _ => by show n ≤ (rangeD lo 1 n).length; rw [rangeD_len]; exact Nat.le_refl _
  go := fun i N' c' H' st hi sx _ _ => by
    have hi : i < (rangeD lo 1 n).length := hi
    rw [rangeD_len] at hi; exact hi
  yld := fun i N' c' H' st x H2 hi sx W _ y => by
    have hi : i < (rangeD lo 1 n).length := hi
    obtain ⟨rfl, rfl⟩ := y
    rw [rangeD_len] at hi
    refine ⟨_, rangeD_get hi, Ex.refl, W, ?_⟩
    rw [Int.mul_one]
    exact .int _
end
def inR (i : Int) : Bool := decide (-(2 ^ 62) ≤ i) && decide (i < 2 ^ 62)
theorem inR_ok {i : Int} (h : inR i = true) : -(2 ^ 62) ≤ i ∧ i < 2 ^ 62 := by
  unfold inR at h
  rw [Bool.and_eq_true] at h
  exact ⟨of_decide_eq_true h.1, of_decide_eq_true h.2⟩
def iRg1 (f : SA) : Fx Src := fun env st => match f env st with
  | some ([.int j], s1) => if inR j = true then some ((rangeD 0 1 j.toNat, noChk), s1) else none
  | _ => none
def iRg2 (f : SA) : Fx Src := fun env st => match f env st with
  | some ([.int i, .int j], s1) => if inR i = true ∧ inR j = true then some ((rangeD i 1 (j - i).toNat, noChk), s1) else none
  | _ => none
def iRg3 (f : SA) : Fx Src := fun env st => match f env st with
  | some ([.int i, .int j, .int k], s1) => if (k ≠ 0 ∧ k.natAbs < 1073741824) ∧ Builtin.Range.small i j k = true ∧ Builtin.Range.rangeSize i j k = ((Builtin.Range.rangeSize i j k).toNat : Int) then some ((rangeD i k (Builtin.Range.rangeSize i j k).toNat, noChk), s1) else none
  | _ => none
section
variable {mg : Glob} {X : Cx} {tg e : Expr} {fe : SE} {f : SA}
theorem i_seq (h : PE X e (tE mg fe)) (hK : X.K = mg.K := by rfl) : PI X tg e (tI mg (iSeq fe)) := pi_weak (pi_or (pi_list h) (pi_tup h)) fun σ H R' ⟨E, N, c, env, st, xs, st', R, q, k⟩ => by
  unfold iSeq at q
  split at q
  · rename_i ys s1 q1
    cases q
    refine .inl ⟨E, N, c, env, st, _, _, R, q1, fun v N1 c1 H1 x1 W1 r1 => ?_⟩
    cases r1 with
    | lst ha n r => exact ⟨_, rfl, ⟨_, SqL.of ha⟩, k _ N1 c1 H1 x1 W1 (il_list ha n r)⟩
  · rename_i ys s1 q1
    cases q
    refine .inr ⟨E, N, c, env, st, _, _, R, q1, fun v N1 c1 H1 x1 W1 r1 => ?_⟩
    cases r1 with
    | tup ha r => exact ⟨_, rfl, ⟨_, SqT.of ha⟩, k _ N1 c1 H1 x1 W1 (il_tup ha r)⟩
  · rename_i kk s1 q1
    split at q
    · rename_i ns hn
      cases q
      refine .inl ⟨E, N, c, env, st, _, _, R, q1, fun v N1 c1 H1 x1 W1 r1 => ?_⟩
      obtain ⟨a, rfl, ha⟩ := RepT.ints W1 (.inl r1) hn
      cases r1 with
      | cell hk => exact ⟨a, rfl, ⟨_, hK ▸ ha⟩, k _ N1 c1 H1 x1 W1 (il_cell hk)⟩
    · cases q
  · cases q
theorem tl1' {N : Prot} {c : List Addr} {H : Hp} {us : List V} {i : Int} (h : RepTL mg N c H us [.int i]) : us = [.int i] := by
  obtain ⟨u, rfl, z⟩ := tl1 h
  rw [z.int]
theorem i_rg1 {a : Expr} {p pos : Pos} (hm : X.mg "range" = none) (ha : PA X [a] (tAP mg f)) (hg : Gl X "range" := by rfl) (hs : starEach [a] X.env = [(false, eval a X.env)] := by rfl) : PI X tg (.Call (.Name "range" p) [a] [] pos) (tI mg (iRg1 f)) := pi_weak (pi_range1 hg hm ha hs) fun σ H R' ⟨E, N, c, env, st, xs, st', R, q, k⟩ => by
  unfold iRg1 at q
  split at q
  · rename_i j s1 q1
    split at q
    · rename_i hr
      cases q
      refine ⟨E, N, c, env, st, _, _, R, q1, fun vs N1 c1 H1 x1 W1 r1 => ?_⟩
      obtain ⟨h1, h2⟩ := inR_ok hr
      exact ⟨j, tl1' r1, h1, h2, k _ N1 c1 H1 x1 W1 il_range⟩
    · cases q
  · cases q
end

/-! ### list comprehensions -/
def wipeE (env : Env) : List Nat → Env
  | [] => env
  | v :: vs => (wipeE env vs).set v .un
def compM (chk : Sto → Bool) (asg : D → Env → Option Env) (cond : SB) (elt : SE) (env0 : Env) : List D → Sto → Option (List D × Sto)
  | [], st => if chk st = true then some ([], st) else none
  | d :: ds, st => if chk st = true then (match asg d env0 with
    | none => none
    | some e1 => match cond e1 st with
      | none => none
      | some (false, s1) => compM chk asg cond elt env0 ds s1
      | some (true, s1) => match elt e1 s1 with
        | none => none
        | some (y, s2) => match compM chk asg cond elt env0 ds s2 with
          | none => none
          | some (ys, s3) => some (y :: ys, s3)) else none
def lComp (fi : Fx Src) (asg : D → Env → Option Env) (cond : SB) (elt : SE) (vs : List Nat) : Fx (List D) := fun env st => match fi env st with
  | none => none
  | some (xs, s1) => if xs.1.length ≤ 1000000 then compM xs.2 asg cond elt (wipeE env vs) xs.1 s1 else none
def bYes : SB := fun _ st => some (true, st)
section
variable {mg : Glob}
theorem Rel.wipe {E : En} {N : Prot} {c : List Addr} {env : Env} {st : Sto} {σ : L2.St} {H : Hp} (R : Rel mg E N c env st σ H) : ∀ (vs : List Nat), Rel mg E N c (wipeE env vs) st (L2.wipe σ vs) H
  | [] => R
  | v :: vs => by
    have R0 := Rel.wipe R vs
    unfold wipeE L2.wipe
    refine ⟨by rw [List.length_set, List.length_set]; exact R0.len, fun j s' e => ?_, fun j s' a e ho es => ?_, fun j k s1 s2 a e1 o1 e2 o2 h1 h2 => ?_, R0.wd, R0.n0, R0.t0, R0.base, R0.pre, R0.newc, fun j cn ns ds b e es => ?_⟩
    · rcases get_set e with ⟨rfl, rfl⟩ | ⟨ne, e⟩
      · trivial
      · rw [List.getElem?_set_ne ne]
        exact R0.sl j s' e
    · rcases get_set e with ⟨rfl, rfl⟩ | ⟨ne, e⟩
      · cases ho
      · rw [List.getElem?_set_ne ne] at es
        exact R0.own j s' a e ho es
    · rcases get_set e1 with ⟨rfl, rfl⟩ | ⟨n1, e1⟩
      · cases o1
      · rcases get_set e2 with ⟨rfl, rfl⟩ | ⟨n2, e2⟩
        · cases o2
        · rw [List.getElem?_set_ne n1] at h1
          rw [List.getElem?_set_ne n2] at h2
          exact R0.inj j k s1 s2 a e1 o1 e2 o2 h1 h2
    · rcases get_set e with ⟨rfl, e2⟩ | ⟨ne, e⟩
      · cases e2
      · rw [List.getElem?_set_ne ne] at es
        exact R0.slf j cn ns ds b e es
/-- a protected list that nobody else holds grows -/
theorem Rel.grow {E : En} {N : Prot} {c : List Addr} {env : Env} {st : Sto} {σ : L2.St} {H : Hp} {p : Addr} {us : List V} (R : Rel mg E N c env st σ H) (np : N p) (nc : p ∉ c) (h0 : E.H0 p = none) (hp : ∃ o, H p = some o ∧ ∀ us, o ≠ .tup us) (nw : ∀ (j : Nat) s, env[j]? = some s → s.isOwn = true → σ[j]? ≠ some (some (.ref p))) :
    Rel mg E N c env st σ (upd H p (.lst us)) ∧ Sx N c H N c (upd H p (.lst us)) := by
  have keep : ∀ b o, H b = some o → ¬ N b → (upd H p (.lst us)) b = some o := fun b o e n => by
    rw [upd_ne (show b ≠ p from fun z => n (z ▸ np))]; exact e
  have tk : ∀ b, (upd H p (.lst us)) b = none → H b = none := fun b e => by
    by_cases q : b = p
    · rw [q, upd_same] at e; cases e
    · rw [upd_ne q] at e; exact e
  have sx : Sx N c H N c (upd H p (.lst us)) := ⟨keep, fun _ z => .inl z, fun _ _ z => z, fun _ z => .inl z, tk, fun b us e => by rw [upd_ne (fun z => by obtain ⟨o, h1, h2⟩ := hp; rw [z, h1] at e; cases e; exact h2 us rfl)]; exact e⟩
  refine ⟨⟨R.len, fun j s' e => ?_, R.own, R.inj, ?_, R.n0, R.t0, fun b o e n => ?_, R.pre, R.newc, R.slf⟩, sx⟩
  · have q := R.sl j s' e
    cases s' with
    | un => trivial
    | val d => obtain ⟨v, ev, rv⟩ := q; exact ⟨v, ev, rv.tr sx.tr⟩
    | own ys =>
      obtain ⟨b, us', ev, hb', rv⟩ := q
      have : b ≠ p := fun z => nw j _ e rfl (by rw [← z]; exact join_some ev)
      exact ⟨b, us', ev, by rw [upd_ne this]; exact hb', rv.tr sx.tr⟩
    | ownI cn ns ds =>
      obtain ⟨b, C, dx, fs, ev, hc, hb', hn, rv⟩ := q
      have : b ≠ p := fun z => nw j _ e rfl (by rw [← z]; exact join_some ev)
      exact ⟨b, C, dx, fs, ev, hc, by rw [upd_ne this]; exact hb', hn, rv.tr sx.tr⟩
    | ownD ks ds =>
      obtain ⟨b, kvs, ev, hb', hn, rv⟩ := q
      have : b ≠ p := fun z => nw j _ e rfl (by rw [← z]; exact join_some ev)
      exact ⟨b, kvs, ev, by rw [upd_ne this]; exact hb', hn, rv.tr sx.tr⟩
    | ownT ks ds =>
      obtain ⟨b, kvs, ev, hb', hn, rv⟩ := q
      have : b ≠ p := fun z => nw j _ e rfl (by rw [← z]; exact join_some ev)
      exact ⟨b, kvs, ev, by rw [upd_ne this]; exact hb', hn, rv.tr sx.tr⟩
  · exact ⟨R.wd.len, fun k b ys h1 h2 => by
      obtain ⟨us', hb', rr⟩ := R.wd.sto k b ys h1 h2
      exact ⟨us', by rw [upd_ne (show b ≠ p from fun z => nc (z ▸ List.mem_of_getElem? h1))]; exact hb', rr.tr sx.tr⟩, R.wd.cn, R.wd.nd, fun b z e => R.wd.trk b z (tk b e)⟩
  · have : b ≠ p := fun z => by rw [z, h0] at e; cases e
    rw [upd_ne this]
    exact R.base b o e n
theorem wipe_none : ∀ {vs : List Nat} {σ : L2.St} {i : Nat}, i ∈ vs → (L2.wipe σ vs).set i none = L2.wipe σ vs
  | [], _, _, h => by cases h
  | v :: vs, σ, i, h => by
    unfold L2.wipe
    by_cases e : i = v
    · subst e
      rw [List.set_set]
    · have hi : i ∈ vs := (List.mem_cons.mp h).elim (fun z => absurd z e) fun z => z
      rw [List.set_comm _ _ (Ne.symm e), wipe_none hi]
theorem wipe_idem : ∀ {vs us : List Nat} {σ : L2.St}, (∀ i ∈ us, i ∈ vs) → L2.wipe (L2.wipe σ vs) us = L2.wipe σ vs
  | _, [], _, _ => rfl
  | vs, u :: us, σ, h => by
    show (L2.wipe (L2.wipe σ vs) us).set u none = _
    rw [wipe_idem fun i hi => h i (List.mem_cons_of_mem _ hi)]
    exact wipe_none (h u List.mem_cons_self)
variable {fi : Fx Src} {asg : D → Env → Option Env} {cond : SB} {elt : SE} {g : TG} {is vs : List Nat}
theorem r_lc (hg : GOk mg g asg is) (hv : ∀ i ∈ is, i ∈ vs) {σ : L2.St} {H : Hp} {Q : VK} (h : tL mg (lComp fi asg cond elt vs) σ H Q) : tLc (tI mg fi) g (tT mg cond) (tE mg elt) vs σ H Q := by
  obtain ⟨E, N, c, env, st, d, st', R, q, k⟩ := h
  unfold lComp at q
  split at q
  · cases q
  · rename_i src s1 q1
    obtain ⟨xs, chk⟩ := src
    split at q
    · rename_i hl
      have hl : xs.length ≤ 1000000 := hl
      refine ⟨E, N, c, env, st, (xs, chk), s1, R, q1, fun J N1 c1 H1 x1 W1 il => fun p hp => ?_⟩
      have R1 := R.ex x1 W1
      have x2 := Ex.laidN (o := .lst []) W1 hp
      have W2 := W1.laidN (o := .lst []) hp
      have h0 : E.H0 p = none := R1.fresh0 hp
      have hpH : H p = none := x1.free R.wd W1 hp
      have nw := (R1.wipe vs).notOwn hp
      refine ⟨fun i m H' => m = xs.length - i ∧ i ≤ xs.length ∧ ∃ N' c' st2 accD accV ys, Ex N c H N' c' H' ∧ Sx N1 c1 H1 N' c' H' ∧ Rel mg E N' c' (wipeE env vs) st2 (L2.wipe σ vs) H' ∧ N' p ∧ p ∉ c' ∧ H' p = some (.lst accV) ∧ RepL mg N' c' H' accV accD ∧ accD.length ≤ i ∧
        compM chk asg cond elt (wipeE env vs) (xs.drop i) st2 = some (ys, st') ∧ accD ++ ys = d,
        ⟨xs.length, by omega, Nat.zero_le _, _, c1, s1, [], [], d, x1.trans x2 R.wd, x2.sx W1 W2, (R1.ex x2 W2).wipe vs, .inr rfl, W1.cnone hp, upd_same, .nil, Nat.zero_le _, by rw [List.drop_zero]; exact q, rfl⟩, ?_⟩
      rintro i m H' ⟨rfl, hi, N', c', st2, accD, accV, ys, ex, sx, R', np, nc, hpv, ra, la, ql, ed⟩
      by_cases hlt : i < xs.length
      · have ed0 : xs.drop i = xs[i] :: xs.drop (i + 1) := List.drop_eq_getElem_cons hlt
        rw [ed0] at ql
        unfold compM at ql
        split at ql
        · rename_i hck
          refine .inr ⟨il.go i N' c' H' st2 hlt sx R'.wd hck, fun H3 => ∃ N' c' st2 accD accV ys, Ex N c H N' c' H3 ∧ Sx N1 c1 H1 N' c' H3 ∧ Rel mg E N' c' (wipeE env vs) st2 (L2.wipe σ vs) H3 ∧ N' p ∧ p ∉ c' ∧ H3 p = some (.lst accV) ∧ RepL mg N' c' H3 accV accD ∧ accD.length ≤ i + 1 ∧
            compM chk asg cond elt (wipeE env vs) (xs.drop (i + 1)) st2 = some (ys, st') ∧ accD ++ ys = d, fun H3 z => ⟨xs.length - (i + 1), by omega, rfl, hlt, z⟩, fun x H2 y => ?_⟩
          obtain ⟨d0, hd0, x3, W3, r3⟩ := il.yld i N' c' H' st2 x H2 hlt sx R'.wd hck y
          have ed2 : xs[i] = d0 := by
            obtain ⟨_, e⟩ := List.getElem?_eq_some_iff.mp hd0
            exact e
          rw [ed2] at ql
          split at ql
          · cases ql
          · rename_i e1 ha
            have R3 := R'.ex x3 W3
            refine hg E N' c' _ e1 st2 _ H2 x d0 _ R3 r3 ha fun σ4 R4 df => ⟨by rw [df vs hv]; exact wipe_idem fun _ z => z, ?_⟩
            split at ql
            · cases ql
            · rename_i sA qc
              refine ⟨E, N', c', e1, st2, false, sA, R4, qc, fun N5 c5 H5 x5 W5 => iteF ?_⟩
              have x35 := x3.trans x5 R'.wd
              exact ⟨N5, c5, sA, accD, accV, ys, ex.trans x35 R.wd, sx.trans (x35.sx R'.wd W5), R3.ex x5 W5, x5.mono p np, x35.nc R'.wd hpv nc, x35.keep p _ hpv nc, ra.tr (x35.tr R'.wd), Nat.le_succ_of_le la, ql, ed⟩
            · rename_i sA qc
              split at ql
              · cases ql
              · rename_i y1 sB qe
                split at ql
                · cases ql
                · rename_i ys1 s3 qr
                  cases ql
                  refine ⟨E, N', c', e1, st2, true, sA, R4, qc, fun N5 c5 H5 x5 W5 => iteT ?_⟩
                  refine ⟨E, N5, c5, e1, sA, y1, sB, R4.ex x5 W5, qe, fun w N6 c6 H6 x6 W6 r6 => ?_⟩
                  have x36 := (x3.trans x5 R'.wd).trans x6 R'.wd
                  have hp6 := x36.keep p _ hpv nc
                  have nc6 := x36.nc R'.wd hpv nc
                  have np6 := x36.mono p np
                  have ra6 := ra.tr (x36.tr R'.wd)
                  have ln := ra6.length
                  refine ⟨accV, hp6, sz7 (by omega), ?_⟩
                  have R6 : Rel mg E N6 c6 (wipeE env vs) sB (L2.wipe σ vs) H6 := R'.ex x36 W6
                  obtain ⟨Rg, sg⟩ := R6.grow (us := accV ++ [w]) np6 nc6 h0 ⟨_, hp6, by simp⟩ nw
                  have exT := ex.trans x36 R.wd
                  refine ⟨N6, c6, sB, accD ++ [y1], accV ++ [w], ys1, ⟨fun a o e n => ?_, exT.new, exT.mono, exT.pre, exT.newc⟩, (sx.trans (x36.sx R'.wd W6)).trans sg, Rg, np6, nc6, upd_same, (ra6.append (.cons r6 .nil)).tr sg.tr, by rw [List.length_append]; show accD.length + 1 ≤ i + 1; omega, qr, by rw [List.append_assoc]; exact ed⟩
                  rw [upd_ne (ne_of_none e hpH)]
                  exact exT.keep a o e n
        · cases ql
      · have e : i = xs.length := by omega
        subst e
        rw [List.drop_length] at ql
        unfold compM at ql
        split at ql
        · rename_i hck
          cases ql
          rw [List.append_nil] at ed
          subst ed
          exact .inl ⟨il.stop N' c' H' _ sx R'.wd hck, k _ N' c' H' ex R'.wd ⟨p, accV, rfl, hpH, np, nc, hpv, ra⟩⟩
        · cases ql
    · cases q
variable {X : Cx} {eltE tg iter : Expr} {ifs : List Expr} {scope : Scope} {own : List (Str × Nat)} {pos : Pos}
theorem pts_nilT : PTs X [] (tT mg bYes) := ⟨fun pins s σ H Q I h => (pts_nil (X := X)).run pins s σ H Q I (by
  obtain ⟨E, N, c, env, st, b, st', R, q, k⟩ := h
  cases q
  exact k N c H Ex.refl R.wd)⟩
theorem pts_oneT {c : Expr} {t : SB} (h : PT X c (tT mg t)) : PTs X [c] (tT mg t) := pts_one h
/-- [elt for target in iter if ..] -/
theorem d_lc (hc : X.calm = true) (hN : X.N.Nodup) (hi : PI X tg iter (tI mg fi)) (ok : BlkOk X.N X.env.scope scope own)
    (hgg : ∀ (s : Shared) (H : Hp) (C : Addr) (cl : List (Str × Addr)) (fp : List Addr), PG (X.blk s H scope (compEnvC scope cl C X.env) fp) tg g) (hg : GOk mg g asg is) (hv : ∀ i ∈ is, i ∈ own.map (·.2))
    (ht : ∀ (s : Shared) (H : Hp) (C : Addr) (cl : List (Str × Addr)) (fp : List Addr), PTs (X.blk s H scope (compEnvC scope cl C X.env) fp) ifs (tT mg cond))
    (he : ∀ (s : Shared) (H : Hp) (C : Addr) (cl : List (Str × Addr)) (fp : List Addr), PE (X.blk s H scope (compEnvC scope cl C X.env) fp) eltE (tE mg elt)) (hs : ∀ x, foldedSetIterable iter X.env x = pure x := by intro _; rfl) :
    PE X (.ListComp eltE [⟨tg, iter, ifs, 0⟩] scope pos) (tL mg (lComp fi asg cond elt (own.map (·.2)))) :=
  pe_weak (pe_lc hc hN hi ok hgg ht he hs) fun _ _ _ h => r_lc hg hv h
end
end LW

/-! LwK: bodies of defs; cells handed back; fields of a new instance; two names at once. -/
namespace LW
open PySem L2 PyProof.Rows

/-! ### a def by its body -/
def env0 (m : Nat) (ds : List D) : Env := ds.map Sl.val ++ List.replicate (m - ds.length) .un
def fnM (n m : Nat) (body : SS) : FM := fun ds st => if ds.length = n then (match body (env0 m ds) st with
  | some (.rt d, s1) => some (d, s1)
  | some (.nx _, s1) => some (.non, s1)
  | _ => none) else none
theorem fnM_ar {n m : Nat} {body : SS} : Ar n (fnM n m body) := fun ds st r h => by
  unfold fnM at h
  split at h
  · rename_i e; exact e
  · cases h
section
variable {mg : Glob}
theorem rel0 {N : Prot} {c : List Addr} {H : Hp} {st : Sto} {nm : List Str} {vs : List V} {ds : List D} (W : Wd mg N c H st) (r : RepL mg N c H vs ds) : Rel mg ⟨H, N, c, none⟩ N c (env0 nm.length ds) st (L2.start nm vs) H where
  len := by
    unfold L2.start env0
    rw [List.length_append, List.length_append, List.length_map, List.length_map, List.length_replicate, List.length_replicate, r.length]
  sl := fun i s e => by
    unfold env0 at e
    by_cases hi : i < ds.length
    · rw [List.getElem?_append_left (by simpa using hi), List.getElem?_map, List.getElem?_eq_getElem hi] at e
      cases e
      obtain ⟨v, hv, rv⟩ := r.get (List.getElem?_eq_getElem hi)
      refine ⟨v, ?_, rv⟩
      unfold L2.start
      rw [List.getElem?_append_left (by rw [List.length_map, r.length]; exact hi), List.getElem?_map, hv]
      rfl
    · rw [List.getElem?_append_right (by simpa using hi), List.getElem?_replicate] at e
      split at e
      · cases e; trivial
      · cases e
  own := fun i s a e ho _ => by
    unfold env0 at e
    by_cases hi : i < ds.length
    · rw [List.getElem?_append_left (by simpa using hi), List.getElem?_map, List.getElem?_eq_getElem hi] at e
      cases e; cases ho
    · rw [List.getElem?_append_right (by simpa using hi), List.getElem?_replicate] at e
      split at e
      · cases e; cases ho
      · cases e
  inj := fun i j s s' a e ho _ _ _ _ => by
    unfold env0 at e
    by_cases hi : i < ds.length
    · rw [List.getElem?_append_left (by simpa using hi), List.getElem?_map, List.getElem?_eq_getElem hi] at e
      cases e; cases ho
    · rw [List.getElem?_append_right (by simpa using hi), List.getElem?_replicate] at e
      split at e
      · cases e; cases ho
      · cases e
  wd := W
  n0 := fun _ h => h
  t0 := fun a h => W.trk a h
  base := fun _ _ h _ => h
  pre := fun _ _ h => h
  newc := fun _ h => .inl h
  slf := fun i cn ns dd a e _ => by
    unfold env0 at e
    by_cases hi : i < ds.length
    · rw [List.getElem?_append_left (by simpa using hi), List.getElem?_map, List.getElem?_eq_getElem hi] at e
      cases e
    · rw [List.getElem?_append_right (by simpa using hi), List.getElem?_replicate] at e
      split at e
      · cases e
      · cases e
theorem Fin.ex {N : Prot} {c c' : List Addr} {H H' : Hp} {st st' : Sto} {v : V} {d : D} (W : Wd mg N c H st) (f : Fin mg ⟨H, N, c, none⟩ c' st' H' v d) : Ex N c H (fun a => N a ∨ a ∈ c') c' H' where
  keep := fun a o h n => by
    by_cases q : a ∈ c'
    · rcases f.newc a q with z | z
      · exact absurd z n
      · exact absurd (h.symm.trans z) (by simp)
    · exact f.base a o h q
  new := fun a z => z.elim .inl fun q => (f.newc a q).elim (fun w => .inl (W.cn a w)) .inr
  mono := fun _ h => .inl h
  pre := f.pre
  newc := f.newc
end
section
variable {P : Program} {w : World} {K : PySem.W.Frag} {mg : Str → Option Value} {base : Heap}
/-- THE RULE for a def: it reckons what its body reckons -/
theorem fn_M {x qual : Str} {st : Stmt} {f : Addr} {fd : FuncData} {nm ps : List Str} {k : Nat} {body : SS} (F : Fun K x qual st f fd) (S : FnScope nm ps (defScope st))
    (hbody : ∀ (cdv : Value) (A : Around) (outer : List PySem.Env) (s : Shared) (H : Hp) (E : XK), Room k (A.deeper (envOfC qual (defScope st) s.heap.objs.size f cdv)) →
      PSs (cxOf CX0 P w K mg base nm qual (defScope st) f cdv A outer s H E).nox (defBody st) (tS ⟨mg, K⟩ body)) :
    FnOk P w K mg base CX0 (k + 1) f fd ps (spM ⟨mg, K⟩ (fnM ps.length nm.length body) ps.length) := by
  refine F.ok S (fun vs H Q E h => h.1) fun cdv A outer s H vs Q E hr h => ⟨_, hbody cdv A outer s H E hr, ?_⟩
  obtain ⟨_, N, c, ds, st0, d, st', W, r, q, kk⟩ := h
  unfold fnM at q
  split at q
  · rename_i hl
    have R := rel0 (nm := nm) W r
    split at q
    · rename_i d1 s1 q1
      cases q
      exact tS_def.mpr ⟨_, N, c, _, st0, _, _, R, q1, fun c' H' v fn => kk v _ c' H' (fn.ex W) fn.wd fn.rep⟩
    · rename_i e1 s1 q1
      cases q
      exact tS_def.mpr ⟨_, N, c, _, st0, _, _, R, q1, fun N' c' σ' H' sx R' => kk .non _ c' H' ((R'.fin .non).ex W) (R'.fin .non).wd (.non)⟩
    · cases q
  · cases q
end

/-! ### a new list handed back as a cell -/
def sRetC (f : Fx (List D)) : SS := fun env st => match f env st with
  | some (xs, s1) => some (.rt (.cell s1.length), s1 ++ [xs])
  | none => none
section
variable {mg : Glob} {E : En} {N : Prot} {c : List Addr} {H : Hp} {st : Sto} {env : Env} {σ : L2.St} {p : Addr} {vs : List V} {xs : List D}
theorem Rel.finC (R : Rel mg E N c env st σ H) (hp : H p = some (.lst vs)) (np : N p) (nc : p ∉ c) (h0 : E.H0 p = none) (r : RepL mg N c H vs xs) : Fin mg E (c ++ [p]) (st ++ [xs]) H (.ref p) (.cell st.length) := by
  have less : ∀ a, (E.N0 a ∨ a ∈ c ++ [p]) → N a := fun a z => z.elim (R.n0 a) fun q => (List.mem_append.mp q).elim (R.wd.cn a) fun q => by
    have e : a = p := by simpa using q
    rw [e]; exact np
  have tr : Tr N c H (fun a => E.N0 a ∨ a ∈ c ++ [p]) (c ++ [p]) H := ⟨fun _ _ e _ => e, fun a z => .inl (less a z), fun k a e => by rw [List.getElem?_append_left (List.getElem?_eq_some_iff.mp e).1]; exact e, fun _ _ e => e⟩
  have hl := R.wd.len
  refine ⟨⟨by rw [List.length_append, List.length_append, hl]; rfl, fun k a ys h1 h2 => ?_, fun a z => .inr z, ?_, fun a z => R.wd.trk a (less a z)⟩, .cell (by rw [← hl, List.getElem?_append_right (Nat.le_refl _)]; simp), fun a o e n => R.base a o e fun z => n (List.mem_append_left _ z), fun k a e => tr.pre k a (R.pre k a e), fun a z => ?_⟩
  · by_cases hk : k < c.length
    · rw [List.getElem?_append_left hk] at h1
      rw [List.getElem?_append_left (by omega)] at h2
      obtain ⟨us, ha, rr⟩ := R.wd.sto k a ys h1 h2
      exact ⟨us, ha, rr.tr tr⟩
    · rw [List.getElem?_append_right (by omega)] at h1 h2
      by_cases e : k - c.length = 0
      · rw [e] at h1
        rw [← hl, e] at h2
        cases h1
        cases h2
        exact ⟨_, hp, .l (r.tr tr)⟩
      · rw [List.getElem?_eq_none (by simp; omega)] at h1
        cases h1
  · exact List.nodup_append.mpr ⟨R.wd.nd, by simp, fun a ha b hb => by
      have e : b = p := by simpa using hb
      rw [e]
      exact fun z => nc (z ▸ ha)⟩
  · rcases List.mem_append.mp z with z | z
    · exact R.newc a z
    · have e : a = p := by simpa using z
      rw [e]; exact .inr h0
end
section
variable {mg : Glob} {X : Cx} {e : Expr} {pos : Pos} {fl : Fx (List D)}
theorem s_retC (he : PE X e (tL mg fl)) : PS X (.Return (some e) pos) (tS mg (sRetC fl)) := ps_weak (ps_ret he) fun De σ H h => by
  obtain ⟨E, N, c, env, st, o, st', R, q, p⟩ := tS_def.mp h
  unfold sRetC at q
  split at q
  · rename_i xs s1 q1
    cases q
    refine ⟨E, N, c, env, st, xs, s1, R, q1, fun v N' c' H' x W r => ?_⟩
    obtain ⟨a, vs, rfl, hn, na, nc, ha, rr⟩ := r
    exact p _ _ _ ((R.ex x W).finC ha na nc (R.fresh0 hn) rr)
  · cases q
/-- return x, x a list of the frame's own, as a cell -/
def sRetO (i : Nat) : SS := fun env st => match env[i]? with
  | some (.own xs) => some (.rt (.cell st.length), st ++ [xs])
  | _ => none
end

/-! ### the fields of a new instance -/
def putD (m : Str) (d : D) : List Str → List D → List Str × List D
  | n :: ns, v :: vs => if n = m then (n :: ns, d :: vs) else (n :: (putD m d ns vs).1, v :: (putD m d ns vs).2)
  | _, _ => ([m], [d])
def sFld (cn : Str) (i : Nat) (m : Str) (fe : SE) : SS := fun env st => match fe env st with
  | some (d, s1) => match env[i]? with
    | some (.ownI cn' ns vs) => if cn' = cn ∧ ns.length < 1000 then some (.nx (env.set i (.ownI cn' (putD m d ns vs).1 (putD m d ns vs).2)), s1) else none
    | _ => none
  | none => none
section
variable {mg : Glob} {N N' : Prot} {c c' : List Addr} {H H' : Hp} {st st' : Sto} {E : En} {env : Env} {σ : L2.St}
end
section
variable {mg : Glob} {X : Cx} {e : Expr} {pos apos : Pos} {fe : SE} {m : Str} {C : Addr} {cn : Str}
end
section
variable {P : Program} {w : World} {K : PySem.W.Frag} {mg : Str → Option Value} {base : Heap}
end
end LW

/-! LwL: == and != by an own __eq__; two names at once. -/
namespace LW
open PySem L2 PyProof.Rows

/-! ### == and != of own instances -/
section
variable {prog : Program} {w : World} {A : Around} {E : Value → Shared → Prop} {s : Shared} {K : PySem.W.Frag} {x C f : Addr} {ox : Obj} {od : Option Obj} {b tb : Value}
end
section
variable {X : Cx} {k : Nat} {f C : Addr} {fd : FuncData} {ps : List Str} {sp : Sp}
end
section
variable {mg : Glob} {X : Cx} {k : Nat} {f C : Addr} {fd : FuncData} {ps : List Str} {g : FM} {cn : Str} {cs : List Str} {a b : Expr} {pos : Pos} {fa fb : SE}
/-- the other's class is not asked first -/
structure NotF (mg : Glob) (cs : List Str) (C : Addr) : Prop where
  own : ∀ n C', n ∈ cs → mg.mg n = some (.ref C') → PySem.W.notFirst mg.K C (.ref C') = true
  blt : ∀ t : Ty7, PySem.W.notFirst mg.K C (.type t.name) = true
end

/-! ### two names at once -/
/-- what a value may become: data, or a list of the frame's own -/
inductive Kd where
  | val (f : SE) | own (f : Fx (List D))
def Kd.run : Kd → Fx Sl
  | .val f => fun env st => match f env st with
    | some (d, s1) => some (.val d, s1)
    | none => none
  | .own f => fun env st => match f env st with
    | some (xs, s1) => some (.own xs, s1)
    | none => none
def sPar (i j : Nat) (a b : Kd) : SS := fun env st => match a.run env st with
  | some (x, s1) => match b.run env s1 with
    | some (y, s2) => if i = j then none else some (.nx ((env.set i x).set j y), s2)
    | none => none
  | none => none
section
variable {mg : Glob} {X : Cx} {e a b : Expr} {pos : Pos} {fe : SE} {fl : Fx (List D)}
end
end LW

/-! LwM: defs that say repr (nothing is being shown around them); the end of a law. -/
namespace LW
open PySem L2 PyProof.Rows

/-- as FnOk, where nothing is being shown around the call -/
structure FnD (P : Program) (w : World) (K : PySem.W.Frag) (mg : Str → Option Value) (base : Heap) (k : Nat) (f : Addr) (fd : FuncData) (ps : List Str) (sp : Sp) : Prop where
  len : ∀ vs H Q E, sp vs H Q E → vs.length = ps.length
  run : ∀ (A : Around) (outer : List PySem.Env) (s : Shared) (H : Hp) (args : Args) (us : List Value) (vs : List V) (Q : VK) (E : XK), Room k A → A.guards = some [] → Env0 P w K mg base A outer s H → BindsTo s fd args (ps.zip us) → Vals vs us → sp vs H Q E →
    codeAny (model P w) A (.call (.ref f) args) (CR CX0 outer P w H s Q E) s
section
variable {P : Program} {w : World} {K : PySem.W.Frag} {mg : Str → Option Value} {base : Heap} {k : Nat} {f : Addr} {fd : FuncData} {ps : List Str} {sp : Sp}
theorem FnD.of (F : FnOk P w K mg base CX0 k f fd ps sp) : FnD P w K mg base k f fd ps sp := ⟨F.len, fun A outer s H args us vs Q E hr _ => F.run A outer s H args us vs Q E hr⟩
theorem fn_D {x qual : Str} {st : Stmt} {nm : List Str} (F : Fun K x qual st f fd) (S : FnScope nm ps (defScope st)) (len : ∀ vs H Q E, sp vs H Q E → vs.length = ps.length)
    (hbody : ∀ (cdv : Value) (A : Around) (outer : List PySem.Env) (s : Shared) (H : Hp) (vs : List V) (Q : VK) (E : XK), Room k (A.deeper (envOfC qual (defScope st) s.heap.objs.size f cdv)) → A.guards = some [] → sp vs H Q E →
      ∃ t, PSs (cxOf CX0 P w K mg base nm qual (defScope st) f cdv A outer s H E).nox (defBody st) t ∧ t { nx := fun _ H' => Q .non H', rt := Q } (L2.start nm vs) H) : FnD P w K mg base (k + 1) f fd ps sp := by
  obtain ⟨oc, od, kV, doc, pm, an, cdv, ct, osl, rfl, lk, hcd⟩ := F.ex
  refine ⟨len, fun A outer s H args us vs Q E hr hgd e0 hb r hsp => ?_⟩
  have hl : vs.length = ps.length := len _ _ _ _ hsp
  have inK : K.In s.heap := e0.mod.kin.keeps fun b o e => (e0.bs b o e).1
  have noL : s.heap.NoLimit := e0.mod.nolimit.keeps fun b o e => (e0.bs b o e).1
  have kinds : ∀ y ∈ ps.zip us, (defScope st).names.lookup y.1 = some .local ∨ ((defScope st).names.lookup y.1 = some .cell ∧ ((cellsFrom (s.heap.objs.size + 1) (defScope st).names []).lookup y.1).isSome = true) := by
    rintro ⟨n, v⟩ hy
    exact (S.par n (List.of_mem_zip hy).1).elim .inl fun q => .inr ⟨q, PySem.W.cellsFrom_some _ _ _ (.inl q)⟩
  refine codeAny_call_function hr.depth (inK _ _ lk) rfl S.co S.gen rfl (PySem.W.codeRec_of inK hcd) (hb _ _ _ _ ?_)
  refine wpAny_newFunctionEnv_cells S.kind kinds fun env he s1 z => ?_
  subst he
  refine ⟨noL.keeps z.toInCall.keep, codeAny_func ?_⟩
  obtain ⟨t, ht, hq⟩ := hbody cdv A outer s H vs Q E (hr.deeper _) hgd hsp
  have I := inv_start (CX := CX0) (E := E) S hr.hd e0 hl r z
  refine wpAny_mono (ht.nox.run [] s1 (L2.start nm vs) H _ I hq) (fun fl s' hs => ?_) fun e s' hs => hs
  cases fl with
  | ret u =>
    obtain ⟨v, σ', H', J, rv, q⟩ := hs
    exact ⟨v, H', J.os, J.bare, J.base, J.hok, rv, q⟩
  | next =>
    obtain ⟨σ', H', J, q⟩ := hs
    exact ⟨V.non, H', J.os, J.bare, J.base, J.hok, rfl, q⟩
  | brk => exact (hs.choose_spec.choose_spec.2 : False).elim
  | cont => exact (hs.choose_spec.choose_spec.2 : False).elim
theorem fn_MD {x qual : Str} {st : Stmt} {nm : List Str} {body : SS} (F : Fun K x qual st f fd) (S : FnScope nm ps (defScope st))
    (hbody : ∀ (cdv : Value) (A : Around) (outer : List PySem.Env) (s : Shared) (H : Hp) (E : XK), Room k (A.deeper (envOfC qual (defScope st) s.heap.objs.size f cdv)) → A.guards = some [] →
      PSs (cxOf CX0 P w K mg base nm qual (defScope st) f cdv A outer s H E).nox (defBody st) (tS ⟨mg, K⟩ body)) :
    FnD P w K mg base (k + 1) f fd ps (spM ⟨mg, K⟩ (fnM ps.length nm.length body) ps.length) := by
  refine fn_D F S (fun vs H Q E h => h.1) fun cdv A outer s H vs Q E hr hgd h => ⟨_, hbody cdv A outer s H E hr hgd, ?_⟩
  obtain ⟨_, N, c, ds, st0, d, st', W, r, q, kk⟩ := h
  unfold fnM at q
  split at q
  · rename_i hl
    have R := rel0 (nm := nm) W r
    split at q
    · rename_i d1 s1 q1
      cases q
      exact tS_def.mpr ⟨_, N, c, _, st0, _, _, R, q1, fun c' H' v fn => kk v _ c' H' (fn.ex W) fn.wd fn.rep⟩
    · rename_i e1 s1 q1
      cases q
      exact tS_def.mpr ⟨_, N, c, _, st0, _, _, R, q1, fun N' c' σ' H' sx R' => kk .non _ c' H' ((R'.fin .non).ex W) (R'.fin .non).wd (.non)⟩
    · cases q
  · cases q
end
section
variable {mg : Glob} {X : Cx} {k : Nat} {f C : Addr} {fd : FuncData} {ps : List Str} {g : FM} {n : Nat} {dvs : List V} {ds : List Value} {dd : List D} {x m : Str} {p pos apos : Pos} {e o : Expr} {es : List Expr} {fs : SA} {fo : SE}
/-- f(e, ..) of such a def -/
theorem d_callD (F : FnD X.prog X.w X.K X.mg X.base k f fd ps (spM mg g n)) (har : Ar n g) (hr : Room k X.A) (hgd : X.A.guards = some []) (hm : X.mg x = some (.ref f)) (hk : PySem.W.keepIn X.K (.ref f) = true) (hb : Binds X.K fd ps ds) (hd : Vals dvs ds) (hdd : Dfl mg dvs dd) (ha : PA X (e :: es) (tA mg fs))
    (hg : Gl X x := by rfl) (hdb : (x == ("__debug__" : Str)) = false := by decide) (he : starEach (e :: es) X.env = (false, eval e X.env) :: starEach es X.env := by rfl) (hpl : (backTo pos (starEach es X.env)).any (·.1) = false := by rfl) :
    PE X (.Call (.Name x p) (e :: es) [] pos) (tE mg (eCall g dd fs)) := by
  refine ⟨fun pins s σ H Q I h => ?_⟩
  have h2 : tCall (spM mg g n) dvs E0 (tA mg fs) σ H Q := r_call har hdd rfl h
  refine wpAny_Call_Name_kw (ld_glob I hg hm ?_ hdb)
  refine PySem.W.callWith_K (h₀ := X.base) I.ok.mod.kin hk (thn (ha.run pos pins s σ H _ I h2) fun us s1 ⟨vs, H1, I1, r, q⟩ => ⟨I1.kIn, ?_⟩) he hpl
  have r2 : Vals (vs ++ dvs) (us ++ ds) := r.append hd
  have hl : (us ++ ds).length = ps.length := r2.length.symm.trans (F.len _ _ _ _ q)
  refine wpAny_call (codeAny_mono (F.run X.A X.stack s1 H1 ⟨us, []⟩ (us ++ ds) (vs ++ dvs) Q E0 hr hgd I1.env0 (hb s1 us I1.kIn hl) r2 q) fun rr s' hq => ?_)
  cases rr with
  | error er => exact hq.elim
  | ok fl =>
    cases fl with
    | ret u => exact I1.after hq
    | next => exact hq.elim
    | brk => exact hq.elim
    | cont => exact hq.elim
end

/-! ### the end of a law -/
/-- the script as data -/
theorem rep_script {mg : Glob} {N : Prot} {c : List Addr} {H : Hp} {a : Addr} {ns : List Int} (hO : Only H) (hS : SqL mg.K H a (ns.map V.int)) (hN : ¬ N a) : Rep mg N c H (.ref a) (.fro (ns.map D.int)) := by
  rcases hS with (h | ⟨o, h⟩) | h
  · rcases hO a with z | ⟨o, xs, z⟩
    · rw [h] at z; cases z
    · rw [h] at z; cases z
  · exact .fro h hN (RepL.ints ns)
  · exact .kro fun H' => .inr h
theorem sp_law {mg : Glob} {g : FM} {H : Hp} {a : Addr} {ns : List Int} (hO : Only H) (hS : SqL mg.K H a (ns.map V.int)) {st' : Sto} (hg : g [.fro (ns.map D.int)] [] = some (.bl true, st')) : spM mg g 1 [.ref a] H (fun v _ => v = .bl true) fun _ _ _ => False := by
  refine ⟨rfl, fun _ => False, [], [.fro (ns.map D.int)], [], .bl true, st', ⟨rfl, fun k a xs h => by simp at h, fun a h => by simp at h, List.nodup_nil, fun a h => h.elim⟩, .cons (rep_script hO hS fun z => z) .nil, hg, fun v N' c' H' _ _ r => ?_⟩
  cases r
  rfl
/-- the law's call behind the top -/
theorem law_D {P : Program} {w : World} {K : PySem.W.Frag} {mg mb : Str → Option Value} {k : Nat} {fa a : Addr} {fd : FuncData} {x : Str} {sp : Sp} {s₁ : Shared} {vs : List Value} {ns : List Int}
    (KX : K.In s₁.heap) (hns : s₁.heap.Ns mainGlobals mg) (hb : s₁.heap.Ns builtinsNs mb) (hbb : ∀ x : Str, x ≠ "__name__" → mb x = bootBuiltins x) (hlim : s₁.heap.NoLimit) (hg : s₁.gens = #[])
    (ha : s₁.heap.get? a = some { cls := .type "list", data := .seq vs.toArray }) (hi : IntsAre vs ns) (hl : ns.length ≤ sizeLine) (hr : Room k callerA)
    (F : ∀ base : Heap, K.In base → base.Ns mainGlobals mg → FnD P w K mg base k fa fd [x] sp) (hbind : ∀ (s : Shared) (u : Value), BindsTo s fd ⟨[u], []⟩ [(x, u)])
    (hsp : ∀ H : Hp, Only H → SqL K H a (ns.map V.int) → sp [.ref a] H (fun v _ => v = .bl true) fun _ _ _ => False) :
    codeAny (model P w) callerA (.call (.ref fa) ⟨[.ref a], []⟩) (fun r s' => r = .ok (.ret (.bool true)) ∧ OldK s₁.heap s'.heap ∧ s'.os = s₁.os ∧ AllBare s'.gens) s₁ := by
  have rv := vals_ints hi
  have lv := hi.length
  -- the script is tracked, frozen, unless it is an object of the module
  let ob : Obj := { cls := .type "list", data := .seq vs.toArray }
  let H : Hp := fun b => if b = a ∧ K.lookup a = none then some (.frz ob (.lst (ns.map V.int))) else none
  have hH : ∀ b u, H b = some u → b = a ∧ K.lookup a = none ∧ u = .frz ob (.lst (ns.map V.int)) := fun b u e => by
    by_cases q : b = a ∧ K.lookup a = none
    · have e' := (if_pos q).symm.trans e
      cases e'
      exact ⟨q.1, q.2, rfl⟩
    · have e' := (if_neg q).symm.trans e
      cases e'
  have hO : Only H := fun b => by
    by_cases q : b = a ∧ K.lookup a = none
    · exact .inr ⟨_, _, if_pos q⟩
    · exact .inl (if_neg q)
  have hS : SqL K H a (ns.map V.int) := by
    cases hk : K.lookup a with
    | none => exact .inl (.inr ⟨ob, if_pos ⟨rfl, hk⟩⟩)
    | some o =>
      have e := KX a o hk
      rw [ha] at e
      cases e
      exact .inr ⟨_, vs.toArray, _, hk, rfl, rfl, rfl, by rw [List.size_toArray, lv]; exact hl, by simpa using rv⟩
  have hok : HOk P w H s₁.heap := fun b u e => by
    obtain ⟨rfl, _, rfl⟩ := hH b u e
    exact ⟨ha, by rw [List.length_map]; exact hl, vs, _, rv, ha⟩
  -- namespaces and the written part are not tracked
  have dictFree : ∀ {b : Addr} {o : Obj} {es : Array DictEntry} {ep : Nat}, s₁.heap.get? b = some o → o.data = .dict es ep → H b = none := fun {b o es ep} e d => by
    cases q : H b with
    | none => rfl
    | some u =>
      obtain ⟨rfl, _, _⟩ := hH b u q
      rw [ha] at e
      cases e
      cases (show Data.seq vs.toArray _ = Data.dict es ep from d)
  have nsK : ∀ {b : Addr} {m : Str → Option Value}, s₁.heap.Ns b m → (hidT s₁.heap H).Ns b m := fun {b m} ⟨o, es, ep, e, d, r⟩ => ⟨o, es, ep, hidT_get e (dictFree e d), d, r⟩
  have kb : K.In (hidT s₁.heap H) := fun b o e => hidT_get (KX b o e) (by
    cases q : H b with
    | none => rfl
    | some u =>
      obtain ⟨rfl, z, _⟩ := hH b u q
      have e' : K.lookup b = some o := e
      rw [z] at e'; cases e')
  have md : Mod K mg (hidT s₁.heap H) := ⟨kb, nsK hns, ⟨mb, nsK hb, hbb⟩, let ⟨mc, h1, h2⟩ := hlim; ⟨mc, nsK h1, h2⟩⟩
  have e0 : Env0 P w K mg (hidT s₁.heap H) callerA [] s₁ H := ⟨rfl, md, fun b o e => of_hidT e, Nat.le_of_eq (hidT_size _ _), trivial, fun b z => absurd z (by simp [frs]), hok, .of_eq hg⟩
  refine codeAny_mono ((F _ kb (nsK hns)).run callerA [] s₁ H ⟨[.ref a], []⟩ [.ref a] [.ref a] _ _ hr rfl e0 (hbind s₁ (.ref a)) (.cons rfl .nil) (hsp H hO hS)) fun r s' h => ?_
  cases r with
  | error e => exact h.elim
  | ok fl =>
    cases fl with
    | next => exact h.elim
    | brk => exact h.elim
    | cont => exact h.elim
    | ret u =>
      obtain ⟨v, H', os, bare, un, hok', r', q⟩ := h
      subst q
      obtain rfl : u = Value.bool true := r'
      refine ⟨rfl, OldK.of_keep fun b o e => ?_, os, bare⟩
      cases q : H b with
      | none => exact un.keep b o e q (by simp [frs]) (by simp)
      | some u =>
        obtain ⟨rfl, hk, rfl⟩ := hH b u q
        have z2 := un.frzs b ob _ q
        obtain ⟨e1, _⟩ := hok b _ q
        obtain ⟨e2, _⟩ := hok' b _ z2
        rw [e] at e1
        cases e1
        exact e2
end LW

/-! LwN: short words: a def, a method, a class, with where it stands. -/
namespace LW
open PySem L2 PyProof.Rows

section
variable (P : Program) (w : World) (K : PySem.W.Frag) (mg : Str → Option Value) (base : Heap)
/-- the def x of the module, as the top has left it -/
def FT (x : Str) (st : Stmt) : Prop := ∃ f fd, mg x = some (.ref f) ∧ Fun K x x st f fd
/-- the def x keeps the promise of g -/
def OkF (k : Nat) (x : Str) (ps : List Str) (g : FM) : Prop := ∃ f fd, mg x = some (.ref f) ∧ PySem.W.keepIn K (.ref f) = true ∧ FnOk P w K mg base CX0 k f fd ps (spM ⟨mg, K⟩ g ps.length) ∧ Binds K fd ps [] ∧ Ar ps.length g
def OkD (k : Nat) (x : Str) (ps : List Str) (g : FM) : Prop := ∃ f fd, mg x = some (.ref f) ∧ PySem.W.keepIn K (.ref f) = true ∧ FnD P w K mg base k f fd ps (spM ⟨mg, K⟩ g ps.length) ∧ Binds K fd ps [] ∧ Ar ps.length g
def OkM (k : Nat) (C : Addr) (m : Str) (ps : List Str) (g : FM) : Prop := ∃ f fd, Meth K C m f ∧ FnOk P w K mg base CX0 k f fd ps (spM ⟨mg, K⟩ g ps.length) ∧ Binds K fd ps [] ∧ Ar ps.length g
end
section
variable {P : Program} {w : World} {K : PySem.W.Frag} {mg : Str → Option Value} {base : Heap} {k : Nat} {x m qual cn : Str} {st : Stmt} {nm ps : List Str} {body : SS} {C : Addr}
theorem okF_mk (F : FT K mg x st) (S : FnScope nm ps (defScope st))
    (hb : ∀ (kV doc pm : Value) (an : Option Addr) (cdv ct : Value) (us : List Value), us.length = ps.length → bindArgs (PySem.W.fnOf x x (defArgs st) (defBody st) (defScope st) .none kV doc pm an cdv ct) ⟨us, []⟩ = pure (ps.zip us))
    (hbody : ∀ (f : Addr) (cdv : Value) (A : Around) (outer : List PySem.Env) (s : Shared) (H : Hp) (E : XK), Room k (A.deeper (envOfC x (defScope st) s.heap.objs.size f cdv)) →
      PSs (cxOf CX0 P w K mg base nm x (defScope st) f cdv A outer s H E).nox (defBody st) (tS ⟨mg, K⟩ body)) : OkF P w K mg base (k + 1) x ps (fnM ps.length nm.length body) := by
  obtain ⟨f, fd, hm, F⟩ := F
  exact ⟨f, fd, hm, F.kp, fn_M F S fun cdv A outer s H E hr => hbody f cdv A outer s H E hr, F.binds hb, fnM_ar⟩
theorem okD_mk (F : FT K mg x st) (S : FnScope nm ps (defScope st))
    (hb : ∀ (kV doc pm : Value) (an : Option Addr) (cdv ct : Value) (us : List Value), us.length = ps.length → bindArgs (PySem.W.fnOf x x (defArgs st) (defBody st) (defScope st) .none kV doc pm an cdv ct) ⟨us, []⟩ = pure (ps.zip us))
    (hbody : ∀ (f : Addr) (cdv : Value) (A : Around) (outer : List PySem.Env) (s : Shared) (H : Hp) (E : XK), Room k (A.deeper (envOfC x (defScope st) s.heap.objs.size f cdv)) → A.guards = some [] →
      PSs (cxOf CX0 P w K mg base nm x (defScope st) f cdv A outer s H E).nox (defBody st) (tS ⟨mg, K⟩ body)) : OkD P w K mg base (k + 1) x ps (fnM ps.length nm.length body) := by
  obtain ⟨f, fd, hm, F⟩ := F
  exact ⟨f, fd, hm, F.kp, fn_MD F S fun cdv A outer s H E hr hg => hbody f cdv A outer s H E hr hg, F.binds hb, fnM_ar⟩
theorem OkF.d (h : OkF P w K mg base k x ps g) : OkD P w K mg base k x ps g := by
  obtain ⟨f, fd, h1, h2, h3, h4, h5⟩ := h
  exact ⟨f, fd, h1, h2, FnD.of h3, h4, h5⟩
end

/-! ### calls -/
section
variable {X : Cx} {k : Nat} {C : Addr} {ps : List Str} {g : FM} {gi : FI} {n : Nat} {dvs : List V} {dd : List D} {x m cn : Str} {p pos apos : Pos} {e o a b : Expr} {es : List Expr} {fs : SA} {fo fa fb : SE}
theorem c_call (h : OkF X.prog X.w X.K X.mg X.base k x ps g) (hr : Room k X.A) (ha : PA X (e :: es) (tA ⟨X.mg, X.K⟩ fs)) (hg : Gl X x := by rfl) (hdb : (x == ("__debug__" : Str)) = false := by decide) (he : starEach (e :: es) X.env = (false, eval e X.env) :: starEach es X.env := by rfl) (hpl : (backTo pos (starEach es X.env)).any (·.1) = false := by rfl) :
    PE X (.Call (.Name x p) (e :: es) [] pos) (tE ⟨X.mg, X.K⟩ (eCall g [] fs)) := by
  obtain ⟨f, fd, hm, hk, F, hb, ar⟩ := h
  exact d_call F ar hr hm hk hb .nil dfl_nil ha hg hdb he hpl
theorem c_call0 (h : OkF X.prog X.w X.K X.mg X.base k x ps g) (hr : Room k X.A) (hg : Gl X x := by rfl) (hdb : (x == ("__debug__" : Str)) = false := by decide) : PE X (.Call (.Name x p) [] [] pos) (tE ⟨X.mg, X.K⟩ (eCall g [] aNil)) := by
  obtain ⟨f, fd, hm, hk, F, hb, ar⟩ := h
  exact d_call0 F ar hr hm hk hb .nil dfl_nil hg hdb
theorem c_callD (h : OkD X.prog X.w X.K X.mg X.base k x ps g) (hr : Room k X.A) (hgd : X.A.guards = some []) (ha : PA X (e :: es) (tA ⟨X.mg, X.K⟩ fs)) (hg : Gl X x := by rfl) (hdb : (x == ("__debug__" : Str)) = false := by decide) (he : starEach (e :: es) X.env = (false, eval e X.env) :: starEach es X.env := by rfl) (hpl : (backTo pos (starEach es X.env)).any (·.1) = false := by rfl) :
    PE X (.Call (.Name x p) (e :: es) [] pos) (tE ⟨X.mg, X.K⟩ (eCall g [] fs)) := by
  obtain ⟨f, fd, hm, hk, F, hb, ar⟩ := h
  exact d_callD F ar hr hgd hm hk hb .nil dfl_nil ha hg hdb he hpl
/-- a class with an own __eq__ -/
structure EqF (X : Cx) (k : Nat) (C : Addr) (cs : List Str) (g : FM) : Prop where
  isi : Isi ⟨X.mg, X.K⟩ cs
  nf : NotF ⟨X.mg, X.K⟩ cs C
  ne : PySem.W.findIn X.K (.ref C) "__ne__" = some (some (.builtin "object.__ne__"))
  ob : PySem.W.mroIn X.K C (.type "object") = some true
  eq : ∃ ps, ps.length = 2 ∧ OkM X.prog X.w X.K X.mg X.base k C "__eq__" ps g
/-- n.bit_length() -/
def eBits (f : SE) : SE := fun env st => match f env st with
  | some (.int i, s1) => some (.int (Builtin.Int.intBits i : Nat), s1)
  | _ => none
end
theorem d_bits {mg : Glob} {X : Cx} {o : Expr} {fo : SE} {apos pos : Pos} (ho : PE X o (tP mg fo)) (hbase : attributeBase o "bit_length" X.env (eval o X.env) = eval o X.env := by rfl) (hline : (apos.endLine == pos.line) = true := by rfl) : PE X (.Call (.Attribute o "bit_length" apos) [] [] pos) (tE mg (eBits fo)) :=
  pe_weak (pe_bits ho hbase hline) fun σ H Q ⟨E, N, c, env, st, d, st', R, q, k⟩ => by
    unfold eBits at q
    split at q
    · rename_i i s1 q1
      cases q
      exact ⟨E, N, c, env, st, _, _, R, q1, fun v N1 c1 H1 x1 W1 r1 => ⟨i, r1.int, k _ N1 c1 H1 x1 W1 (.int _)⟩⟩
    · cases q
end LW

/-! LwO: from what the head has written to the words of LwN. -/
namespace LW
open PySem L2 PyProof.Rows
section
variable {P : Program} {w : World} {K : PySem.W.Frag} {mg : Str → Option Value} {base h : Heap} {x m qual cn : Str} {st : Stmt} {f p C T : Addr} {oc kV doc pm cdv ct : Value} {od an : Option Addr} {osl : Array (Option Value)} {rest : List Value}
/-- law itself -/
theorem fn_end {nm : List Str} {par : Str} {fa : Addr} {k : Nat} {body : SS} (F : FT K mg x st) (hfa : mg x = some (.ref fa)) (S : FnScope nm [par] (defScope st))
    (hb : ∀ (kV doc pm : Value) (an : Option Addr) (cdv ct u : Value), bindArgs (PySem.W.fnOf x x (defArgs st) (defBody st) (defScope st) .none kV doc pm an cdv ct) ⟨[u], []⟩ = pure [(par, u)])
    (hbody : ∀ (base : Heap) (f : Addr) (cdv : Value) (A : Around) (outer : List PySem.Env) (s : Shared) (H : Hp) (E : XK), Room k (A.deeper (envOfC x (defScope st) s.heap.objs.size f cdv)) → A.guards = some [] →
      PSs (cxOf CX0 P w K mg base nm x (defScope st) f cdv A outer s H E).nox (defBody st) (tS ⟨mg, K⟩ body)) :
    ∃ fd : FuncData, (∀ (s : Shared) (u : Value), BindsTo s fd ⟨[u], []⟩ [(par, u)]) ∧ ∀ base : Heap, FnD P w K mg base (k + 1) fa fd [par] (spM ⟨mg, K⟩ (fnM 1 nm.length body) 1) := by
  obtain ⟨f, fd, hm, F⟩ := F
  cases hfa.symm.trans hm
  refine ⟨fd, fun s u => ?_, fun base => fn_MD F S fun cdv A outer s H E hr hg => hbody base fa cdv A outer s H E hr hg⟩
  obtain ⟨_, _, kV, doc, pm, an, cdv, ct, _, rfl, _, _⟩ := F.ex
  exact .of_eq (hb kV doc pm an cdv ct u)
end
end LW

/-! LwP: how a mirror runs, told backwards. -/
namespace LW
open PySem L2
inductive Ok {α : Type} (o : Option (α × Sto)) (Q : α → Sto → Prop) : Prop where
  | mk (a : α) (s : Sto) (e : o = some (a, s)) (h : Q a s)
inductive Od {α : Type} (o : Option α) (Q : α → Prop) : Prop where
  | mk (a : α) (e : o = some a) (h : Q a)
@[reducible] def AsB : D → (Bool → Prop) → Prop
  | .bl b, Q => Q b
  | _, _ => False
@[reducible] def AsI : D → (Int → Prop) → Prop
  | .int b, Q => Q b
  | _, _ => False
@[reducible] def AsK : D → (Nat → Prop) → Prop
  | .cell b, Q => Q b
  | _, _ => False
@[reducible] def AsO : D → (Str → List Str → List D → Prop) → Prop
  | .obj c n v, Q => Q c n v
  | _, _ => False
theorem AsB.of {d : D} {Q : Bool → Prop} (h : AsB d Q) : ∃ b, d = .bl b ∧ Q b := by
  cases d <;> first | exact ⟨_, rfl, h⟩ | exact h.elim
theorem AsI.of {d : D} {Q : Int → Prop} (h : AsI d Q) : ∃ b, d = .int b ∧ Q b := by
  cases d <;> first | exact ⟨_, rfl, h⟩ | exact h.elim
theorem AsK.of {d : D} {Q : Nat → Prop} (h : AsK d Q) : ∃ b, d = .cell b ∧ Q b := by
  cases d <;> first | exact ⟨_, rfl, h⟩ | exact h.elim
theorem AsO.of {d : D} {Q : Str → List Str → List D → Prop} (h : AsO d Q) : ∃ a b c, d = .obj a b c ∧ Q a b c := by
  cases d <;> first | exact ⟨_, _, _, rfl, h⟩ | exact h.elim
theorem b_dec {p : Prop} [Decidable p] {A B : Prop} (h1 : p → A) (h2 : ¬ p → B) : if decide p = true then A else B := by
  by_cases h : p
  · rw [decide_eq_true h, if_pos rfl]
    exact h1 h
  · rw [decide_eq_false h, if_neg Bool.false_ne_true]
    exact h2 h
theorem b_t {b : Bool} {A B : Prop} (h : b = true) (h1 : A) : if b = true then A else B := by rw [if_pos h]; exact h1
theorem b_f {b : Bool} {A B : Prop} (h : b = false) (h1 : B) : if b = true then A else B := by rw [h, if_neg Bool.false_ne_true]; exact h1
theorem Ok.mono {α : Type} {o : Option (α × Sto)} {Q R : α → Sto → Prop} (h : Ok o Q) (k : ∀ a s, Q a s → R a s) : Ok o R := by
  obtain ⟨a, s, e, q⟩ := h
  exact ⟨a, s, e, k a s q⟩
theorem Ok.eq {α : Type} {o : Option (α × Sto)} {a : α} {s : Sto} (h : Ok o fun x t => x = a ∧ t = s) : o = some (a, s) := by
  obtain ⟨_, _, e, rfl, rfl⟩ := h
  exact e
theorem Ok.use {α : Type} {o : Option (α × Sto)} {a : α} {s : Sto} {Q : α → Sto → Prop} (e : o = some (a, s)) (h : Q a s) : Ok o Q := ⟨a, s, e, h⟩
section
variable {env : Env} {st : Sto} {Q : D → Sto → Prop} {QB : Bool → Sto → Prop} {QL : List D → Sto → Prop} {QS : Out → Sto → Prop} {i : Nat} {d : D} {fa fb fe : SE} {fs gs : SA} {fl : Fx (List D)} {ta tb : SB} {xs : List D}
theorem z_var (e : env[i]? = some (.val d)) (h : Q d st) : Ok (eVar i env st) Q := ⟨d, st, by unfold eVar; rw [e], h⟩
theorem z_pk (e : env[i]? = some (.val d)) (h : Q d st) : Ok (ePeek i env st) Q := ⟨d, st, by unfold ePeek; rw [e], h⟩
theorem z_pkO (e : env[i]? = some (.own xs)) (h : Q (.lst xs) st) : Ok (ePeek i env st) Q := ⟨_, st, by unfold ePeek; rw [e], h⟩
theorem z_c (h : Q d st) : Ok (eC d env st) Q := ⟨d, st, rfl, h⟩
theorem z_op {α : Type} {op : D → D → Sto → Option α} {Q : α → Sto → Prop} (h : Ok (fa env st) fun x s1 => Ok (fb env s1) fun y s2 => Od (op x y s2) fun d => Q d s2) : Ok (eOp op fa fb env st) Q := by
  obtain ⟨x, s1, e1, y, s2, e2, d, e3, q⟩ := h
  exact ⟨d, s2, by unfold eOp; rw [e1]; dsimp only; rw [e2]; dsimp only; rw [e3], q⟩
theorem z_nil (h : QL [] st) : Ok (aNil env st) QL := ⟨_, st, rfl, h⟩
theorem z_cons (h : Ok (fe env st) fun d s1 => Ok (fs env s1) fun ds s2 => QL (d :: ds) s2) : Ok (aCons fe fs env st) QL := by
  obtain ⟨x, s1, e1, y, s2, e2, q⟩ := h
  exact ⟨_, s2, by unfold aCons; rw [e1]; dsimp only; rw [e2], q⟩
theorem z_tup (h : Ok (fs env st) fun ds s => ds.length ≤ 1000000 ∧ Q (.tup ds) s) : Ok (eTup fs env st) Q := by
  obtain ⟨x, s1, e1, l, q⟩ := h
  exact ⟨_, s1, by unfold eTup; rw [e1]; dsimp only; rw [if_pos l], q⟩
theorem z_lst (h : Ok (fs env st) fun ds s => ds.length ≤ 1000000 ∧ QL ds s) : Ok (lDisp fs env st) QL := by
  obtain ⟨x, s1, e1, l, q⟩ := h
  exact ⟨_, s1, by unfold lDisp; rw [e1]; dsimp only; rw [if_pos l], q⟩
theorem z_L (h : Ok (fl env st) fun ds s => Q (.lst ds) s) : Ok (eL fl env st) Q := by
  obtain ⟨x, s1, e1, q⟩ := h
  exact ⟨_, s1, by unfold eL; rw [e1]; rfl, q⟩
theorem z_bi {α : Type} {g : List D → Sto → Option α} {Q : α → Sto → Prop} (h : Ok (fs env st) fun ds s => Od (g ds s) fun d => Q d s) : Ok (eBi g fs env st) Q := by
  obtain ⟨x, s1, e1, d, e2, q⟩ := h
  exact ⟨d, s1, by unfold eBi; rw [e1]; dsimp only; rw [e2], q⟩
theorem z_call {g : FM} {dd : List D} (h : Ok (fs env st) fun ds s => Ok (g (ds ++ dd) s) Q) : Ok (eCall g dd fs env st) Q := by
  obtain ⟨x, s1, e1, d, s2, e2, q⟩ := h
  exact ⟨d, s2, by unfold eCall; rw [e1]; exact e2, q⟩
theorem z_meth {cn m : Str} {g : FM} {dd : List D} (h : Ok (fe env st) fun o s1 => AsO o fun c ns vs => c = cn ∧ ¬ m ∈ ns ∧ Ok (fs env s1) fun ds s2 => Ok (g (.obj c ns vs :: (ds ++ dd)) s2) Q) : Ok (eMeth cn m g dd fe fs env st) Q := by
  obtain ⟨o, s1, e1, h⟩ := h
  obtain ⟨c, ns, vs, rfl, rfl, hm, ds, s2, e2, d, s3, e3, q⟩ := h.of
  exact ⟨d, s3, by unfold eMeth; rw [e1]; dsimp only; rw [if_pos ⟨rfl, hm⟩, e2]; exact e3, q⟩
theorem z_prop {cn : Str} {g : FM} (h : Ok (fe env st) fun o s1 => AsO o fun c ns vs => c = cn ∧ Ok (g [.obj c ns vs] s1) Q) : Ok (eProp cn g fe env st) Q := by
  obtain ⟨o, s1, e1, h⟩ := h
  obtain ⟨c, ns, vs, rfl, rfl, d, s3, e3, q⟩ := h.of
  exact ⟨d, s3, by unfold eProp; rw [e1]; dsimp only; rw [if_pos rfl]; exact e3, q⟩
theorem z_fld {cn m : Str} (h : Ok (fe env st) fun o s1 => AsO o fun c ns vs => c = cn ∧ Od (fldD m ns vs) fun d => Q d s1) : Ok (eFld cn m fe env st) Q := by
  obtain ⟨o, s1, e1, h⟩ := h
  obtain ⟨c, ns, vs, rfl, rfl, d, e3, q⟩ := h.of
  exact ⟨d, s1, by unfold eFld; rw [e1]; dsimp only; rw [if_pos rfl, e3], q⟩
theorem z_make {cn : Str} {g : FI} {dd : List D} (h : Ok (fs env st) fun ds s => Ok (g (ds ++ dd) s) fun r s2 => Q (.obj cn r.1 r.2) s2) : Ok (eMake cn g dd fs env st) Q := by
  obtain ⟨x, s1, e1, r, s2, e2, q⟩ := h
  exact ⟨_, s2, by unfold eMake; rw [e1]; dsimp only; rw [e2], q⟩
theorem z_and (h : Ok (fa env st) fun d s1 => AsB d fun b => if b = true then Ok (fb env s1) Q else Q (.bl false) s1) : Ok (eAnd fa fb env st) Q := by
  obtain ⟨o, s1, e1, h⟩ := h
  obtain ⟨b, rfl, h⟩ := h.of
  cases b with
  | true =>
    obtain ⟨d, s2, e2, q⟩ := h
    exact ⟨d, s2, by unfold eAnd; rw [e1]; exact e2, q⟩
  | false => exact ⟨_, s1, by unfold eAnd; rw [e1], h⟩
theorem z_or (h : Ok (fa env st) fun d s1 => AsB d fun b => if b = true then Q (.bl true) s1 else Ok (fb env s1) Q) : Ok (eOr fa fb env st) Q := by
  obtain ⟨o, s1, e1, h⟩ := h
  obtain ⟨b, rfl, h⟩ := h.of
  cases b with
  | false =>
    obtain ⟨d, s2, e2, q⟩ := h
    exact ⟨d, s2, by unfold eOr; rw [e1]; exact e2, q⟩
  | true => exact ⟨_, s1, by unfold eOr; rw [e1], h⟩
theorem z_not (h : Ok (fa env st) fun d s1 => AsB d fun b => Q (.bl (!b)) s1) : Ok (eNot fa env st) Q := by
  obtain ⟨o, s1, e1, h⟩ := h
  obtain ⟨b, rfl, h⟩ := h.of
  exact ⟨_, s1, by unfold eNot; rw [e1], h⟩
theorem z_neg (h : Ok (fa env st) fun d s1 => AsI d fun b => Q (.int (-b)) s1) : Ok (eNeg fa env st) Q := by
  obtain ⟨o, s1, e1, h⟩ := h
  obtain ⟨b, rfl, h⟩ := h.of
  exact ⟨_, s1, by unfold eNeg; rw [e1], h⟩
theorem z_bits (h : Ok (fa env st) fun d s1 => AsI d fun b => Q (.int (Builtin.Int.intBits b : Nat)) s1) : Ok (eBits fa env st) Q := by
  obtain ⟨o, s1, e1, h⟩ := h
  obtain ⟨b, rfl, h⟩ := h.of
  exact ⟨_, s1, by unfold eBits; rw [e1], h⟩
theorem z_eif {α : Type} {f g : Fx α} {Q : α → Sto → Prop} (h : Ok (ta env st) fun b s1 => if b = true then Ok (f env s1) Q else Ok (g env s1) Q) : Ok (eIf ta f g env st) Q := by
  obtain ⟨b, s1, e1, h⟩ := h
  cases b with
  | true =>
    obtain ⟨d, s2, e2, q⟩ := h
    exact ⟨d, s2, by unfold eIf; rw [e1]; exact e2, q⟩
  | false =>
    obtain ⟨d, s2, e2, q⟩ := h
    exact ⟨d, s2, by unfold eIf; rw [e1]; exact e2, q⟩
theorem t_of (h : Ok (fe env st) fun d s => AsB d fun b => QB b s) : Ok (bOf fe env st) QB := by
  obtain ⟨o, s1, e1, h⟩ := h
  obtain ⟨b, rfl, h⟩ := h.of
  exact ⟨_, s1, by unfold bOf; rw [e1], h⟩
theorem t_and (h : Ok (ta env st) fun b s => if b = true then Ok (tb env s) QB else QB false s) : Ok (bAnd ta tb env st) QB := by
  obtain ⟨b, s1, e1, h⟩ := h
  cases b with
  | true =>
    obtain ⟨d, s2, e2, q⟩ := h
    exact ⟨d, s2, by unfold bAnd; rw [e1]; exact e2, q⟩
  | false => exact ⟨_, s1, by unfold bAnd; rw [e1], h⟩
theorem t_or (h : Ok (ta env st) fun b s => if b = true then QB true s else Ok (tb env s) QB) : Ok (bOr ta tb env st) QB := by
  obtain ⟨b, s1, e1, h⟩ := h
  cases b with
  | false =>
    obtain ⟨d, s2, e2, q⟩ := h
    exact ⟨d, s2, by unfold bOr; rw [e1]; exact e2, q⟩
  | true => exact ⟨_, s1, by unfold bOr; rw [e1], h⟩
theorem t_not (h : Ok (ta env st) fun b s => QB (!b) s) : Ok (bNot ta env st) QB := by
  obtain ⟨b, s1, e1, h⟩ := h
  exact ⟨_, s1, by unfold bNot; rw [e1], h⟩
theorem z_slN {α : Type} {op : D → Option Int → Option Int → Sto → Option α} {lo hi : SO} {Q : α → Sto → Prop} (h : Ok (fe env st) fun x s1 => Ok (lo env s1) fun l s2 => Ok (hi env s2) fun u s3 => Od (op x l u s3) fun d => Q d s3) : Ok (eSl op fe lo hi env st) Q := by
  obtain ⟨x, s1, e1, l, s2, e2, u, s3, e3, d, e4, q⟩ := h
  exact ⟨d, s3, by unfold eSl; rw [e1]; dsimp only; rw [e2]; dsimp only; rw [e3]; dsimp only; rw [e4], q⟩
theorem z_oN {Q : Option Int → Sto → Prop} (h : Q none st) : Ok (oNone env st) Q := ⟨_, st, rfl, h⟩
theorem z_oS {Q : Option Int → Sto → Prop} (h : Ok (fe env st) fun d s => AsI d fun i => Q (some i) s) : Ok (oSome fe env st) Q := by
  obtain ⟨o, s1, e1, h⟩ := h
  obtain ⟨b, rfl, h⟩ := h.of
  exact ⟨_, s1, by unfold oSome; rw [e1], h⟩
/-! statements -/
variable {f g : SS}
theorem z_snil (h : QS (.nx env) st) : Ok (sNil env st) QS := ⟨_, st, rfl, h⟩
theorem z_seq (h : Ok (f env st) fun o s1 => match o with
    | .nx e => Ok (g e s1) QS
    | o => QS o s1) : Ok (sSeq f g env st) QS := by
  obtain ⟨o, s1, e1, h⟩ := h
  cases o with
  | nx e =>
    obtain ⟨d, s2, e2, q⟩ := h
    exact ⟨d, s2, by unfold sSeq; rw [e1]; exact e2, q⟩
  | rt d => exact ⟨_, s1, by unfold sSeq; rw [e1], h⟩
  | bk d => exact ⟨_, s1, by unfold sSeq; rw [e1], h⟩
  | ct d => exact ⟨_, s1, by unfold sSeq; rw [e1], h⟩
theorem z_set (h : Ok (fe env st) fun d s => QS (.nx (env.set i (.val d))) s) : Ok (sSet i fe env st) QS := by
  obtain ⟨d, s1, e1, h⟩ := h
  exact ⟨_, s1, by unfold sSet; rw [e1], h⟩
theorem z_own (h : Ok (fl env st) fun d s => QS (.nx (env.set i (.own d))) s) : Ok (sOwn i fl env st) QS := by
  obtain ⟨d, s1, e1, h⟩ := h
  exact ⟨_, s1, by unfold sOwn; rw [e1], h⟩
theorem z_ret (h : Ok (fe env st) fun d s => QS (.rt d) s) : Ok (sRet fe env st) QS := by
  obtain ⟨d, s1, e1, h⟩ := h
  exact ⟨_, s1, by unfold sRet; rw [e1], h⟩
theorem z_retC (h : Ok (fl env st) fun xs s => QS (.rt (.cell s.length)) (s ++ [xs])) : Ok (sRetC fl env st) QS := by
  obtain ⟨d, s1, e1, h⟩ := h
  exact ⟨_, _, by unfold sRetC; rw [e1], h⟩
theorem z_retO (e : env[i]? = some (.own xs)) (h : QS (.rt (.cell st.length)) (st ++ [xs])) : Ok (sRetO i env st) QS := ⟨_, _, by unfold sRetO; rw [e], h⟩
theorem z_drop (h : Ok (fe env st) fun _ s => QS (.nx env) s) : Ok (sDrop fe env st) QS := by
  obtain ⟨d, s1, e1, h⟩ := h
  exact ⟨_, s1, by unfold sDrop; rw [e1], h⟩
theorem z_sif (h : Ok (ta env st) fun b s1 => if b = true then Ok (f env s1) QS else Ok (g env s1) QS) : Ok (sIf ta f g env st) QS := by
  obtain ⟨b, s1, e1, h⟩ := h
  cases b with
  | true =>
    obtain ⟨d, s2, e2, q⟩ := h
    exact ⟨d, s2, by unfold sIf; rw [e1]; exact e2, q⟩
  | false =>
    obtain ⟨d, s2, e2, q⟩ := h
    exact ⟨d, s2, by unfold sIf; rw [e1]; exact e2, q⟩
theorem z_frz (h : Ok (f (frz i env) st) QS) : Ok (sFrz i f env st) QS := h
theorem z_app (h : Ok (fe env st) fun d s => ∃ xs, env[i]? = some (.own xs) ∧ xs.length < 1000000 ∧ QS (.nx (env.set i (.own (xs ++ [d])))) s) : Ok (sApp i fe env st) QS := by
  obtain ⟨d, s1, e1, xs, e2, l, h⟩ := h
  exact ⟨_, s1, by unfold sApp; rw [e1]; dsimp only; rw [e2]; dsimp only; rw [if_pos l], h⟩
theorem z_appC (h : Ok (fa env st) fun o s => AsK o fun k => (∃ ys, lcG s k = some ys) ∧ Ok (fe env s) fun d s2 => ∃ xs, lcG s2 k = some xs ∧ xs.length < 1000000 ∧ QS (.nx env) (s2.set k (xs ++ [d]))) : Ok (sAppC fa fe env st) QS := by
  obtain ⟨o, s1, e1, h⟩ := h
  obtain ⟨k, rfl, ⟨ys, e0⟩, d, s2, e2, xs, e3, l, q⟩ := h.of
  exact ⟨_, _, by unfold sAppC; rw [e1]; dsimp only; rw [e0]; dsimp only; rw [e2]; dsimp only; rw [e3]; dsimp only; rw [if_pos l], q⟩
theorem z_putC {fj : SE} (h : Ok (fe env st) fun d s1 => Ok (fa env s1) fun o s2 => AsK o fun k => Ok (fj env s2) fun j s3 => AsI j fun j => ∃ xs n, lcG s3 k = some xs ∧ ixN xs.length j = some n ∧ QS (.nx env) (s3.set k (xs.set n d))) : Ok (sPutC fa fj fe env st) QS := by
  obtain ⟨d, s1, e1, o, s2, e2, h⟩ := h
  obtain ⟨k, rfl, o, s3, e3, h⟩ := h.of
  obtain ⟨j, rfl, xs, n, e4, e5, q⟩ := h.of
  exact ⟨_, _, by unfold sPutC; rw [e1]; dsimp only; rw [e2]; dsimp only; rw [e3]; dsimp only; rw [e4]; dsimp only; rw [e5], q⟩
theorem z_for {fi : Fx Src} {asg : D → Env → Option Env} (h : Ok (fi env st) fun xs s1 => Ok (loopM xs.2 asg f xs.1 env s1) QS) : Ok (sFor fi asg f env st) QS := by
  obtain ⟨xs, s1, e1, o, s2, e2, q⟩ := h
  exact ⟨o, s2, by unfold sFor; rw [e1]; exact e2, q⟩
theorem z_lc {fi : Fx Src} {asg : D → Env → Option Env} {vs : List Nat} (h : Ok (fi env st) fun xs s1 => xs.1.length ≤ 1000000 ∧ Ok (compM xs.2 asg ta fe (wipeE env vs) xs.1 s1) QL) : Ok (lComp fi asg ta fe vs env st) QL := by
  obtain ⟨xs, s1, e1, l, o, s2, e2, q⟩ := h
  exact ⟨o, s2, by unfold lComp; rw [e1]; dsimp only; rw [if_pos l]; exact e2, q⟩
theorem z_yes (h : QB true st) : Ok (bYes env st) QB := ⟨_, st, rfl, h⟩
theorem z_kv {Q : Sl → Sto → Prop} (h : Ok (fe env st) fun d s => Q (.val d) s) : Ok (Kd.run (.val fe) env st) Q := by
  obtain ⟨d, s1, e1, h⟩ := h
  exact ⟨_, s1, by unfold Kd.run; dsimp only; rw [e1], h⟩
theorem z_ko {Q : Sl → Sto → Prop} (h : Ok (fl env st) fun d s => Q (.own d) s) : Ok (Kd.run (.own fl) env st) Q := by
  obtain ⟨d, s1, e1, h⟩ := h
  exact ⟨_, s1, by unfold Kd.run; dsimp only; rw [e1], h⟩
theorem z_par {j : Nat} {a b : Kd} (h : Ok (a.run env st) fun x s1 => Ok (b.run env s1) fun y s2 => i ≠ j ∧ QS (.nx ((env.set i x).set j y)) s2) : Ok (sPar i j a b env st) QS := by
  obtain ⟨x, s1, e1, y, s2, e2, n, q⟩ := h
  exact ⟨_, _, by unfold sPar; rw [e1]; dsimp only; rw [e2]; dsimp only; rw [if_neg n], q⟩
theorem z_unp {is : List Nat} (h : Ok (fe env st) fun d s => ∃ ds e, d = .tup ds ∧ setAll is ds env = some e ∧ QS (.nx e) s) : Ok (sUnp is fe env st) QS := by
  obtain ⟨d, s1, e1, ds, e, rfl, e2, q⟩ := h
  exact ⟨_, _, by unfold sUnp; rw [e1]; dsimp only; rw [e2], q⟩
theorem z_sfld {cn m : Str} (h : Ok (fe env st) fun d s => ∃ ns vs, env[i]? = some (.ownI cn ns vs) ∧ ns.length < 1000 ∧ QS (.nx (env.set i (.ownI cn (putD m d ns vs).1 (putD m d ns vs).2))) s) : Ok (sFld cn i m fe env st) QS := by
  obtain ⟨d, s1, e1, ns, vs, e2, l, q⟩ := h
  exact ⟨_, s1, by unfold sFld; rw [e1]; dsimp only; rw [e2]; dsimp only; rw [if_pos ⟨rfl, l⟩], q⟩
theorem z_fn {n m : Nat} {ds : List D} (hl : ds.length = n) (h : Ok (f (env0 m ds) st) fun o s => match o with
    | .rt d => Q d s
    | .nx _ => Q .non s
    | _ => False) : Ok (fnM n m f ds st) Q := by
  obtain ⟨o, s1, e1, h⟩ := h
  cases o with
  | nx e => exact ⟨_, s1, by unfold fnM; rw [if_pos hl, e1], h⟩
  | rt d => exact ⟨_, s1, by unfold fnM; rw [if_pos hl, e1], h⟩
  | bk d => exact h.elim
  | ct d => exact h.elim
/-! the sources of loops -/
variable {QI : Src → Sto → Prop}
theorem z_rg1 (h : Ok (fs env st) fun ds s => ∃ j, ds = [.int j] ∧ inR j = true ∧ QI (rangeD 0 1 j.toNat, noChk) s) : Ok (iRg1 fs env st) QI := by
  obtain ⟨ds, s1, e1, j, rfl, r, q⟩ := h
  exact ⟨_, s1, by unfold iRg1; rw [e1]; dsimp only; rw [if_pos r], q⟩
theorem z_seqI (h : Ok (fe env st) fun d s => ∃ xs, (d = .lst xs ∨ d = .tup xs) ∧ QI (xs, noChk) s) : Ok (iSeq fe env st) QI := by
  obtain ⟨d, s1, e1, xs, rfl | rfl, q⟩ := h
  · exact ⟨_, s1, by unfold iSeq; rw [e1], q⟩
  · exact ⟨_, s1, by unfold iSeq; rw [e1], q⟩
theorem z_rg2 (h : Ok (fs env st) fun ds s => ∃ i j, ds = [.int i, .int j] ∧ inR i = true ∧ inR j = true ∧ QI (rangeD i 1 (j - i).toNat, noChk) s) : Ok (iRg2 fs env st) QI := by
  obtain ⟨ds, s1, e1, i, j, rfl, r, r', q⟩ := h
  exact ⟨_, s1, by unfold iRg2; rw [e1]; dsimp only; rw [if_pos ⟨r, r'⟩], q⟩
end
section
variable {s : Sto} {Q : D → Prop} {i j : Int}
theorem u_add (h : Q (.int (i + j))) : Od (oAdd (.int i) (.int j) s) Q := ⟨_, rfl, h⟩
theorem u_sub (h : Q (.int (i - j))) : Od (oSub (.int i) (.int j) s) Q := ⟨_, rfl, h⟩
theorem u_mul (c : mulC i j = true) (h : Q (.int (i * j))) : Od (oMul (.int i) (.int j) s) Q := ⟨_, if_pos c, h⟩
theorem u_mod (c : 0 < j) (h : Q (.int (i % j))) : Od (oMod (.int i) (.int j) s) Q := ⟨_, if_pos (decide_eq_true c), h⟩
theorem u_div (c : divC i j = true) (h : Q (.int (i / j))) : Od (oDiv (.int i) (.int j) s) Q := ⟨_, if_pos c, h⟩
theorem u_pow (c : powC i j = true) (h : Q (.int (i ^ j.toNat))) : Od (oPow (.int i) (.int j) s) Q := ⟨_, if_pos c, h⟩
theorem u_lt (h : Q (.bl (decide (i < j)))) : Od (oLt (.int i) (.int j) s) Q := ⟨_, rfl, h⟩
theorem u_le (h : Q (.bl (decide (i ≤ j)))) : Od (oLe (.int i) (.int j) s) Q := ⟨_, rfl, h⟩
theorem u_gt (h : Q (.bl (decide (j < i)))) : Od (oGt (.int i) (.int j) s) Q := ⟨_, rfl, h⟩
theorem u_ge (h : Q (.bl (decide (j ≤ i)))) : Od (oGe (.int i) (.int j) s) Q := ⟨_, rfl, h⟩
theorem u_eq {x y : D} {p q : PyData} (hx : toPy 60 s x = some p) (hy : toPy 60 s y = some q) (h : Q (.bl (PyData.eqv p q))) : Od (oEq x y s) Q := ⟨_, by unfold oEq; rw [hx, hy], h⟩
theorem u_ne {x y : D} {p q : PyData} (hx : toPy 60 s x = some p) (hy : toPy 60 s y = some q) (h : Q (.bl (!PyData.eqv p q))) : Od (oNe x y s) Q := ⟨_, by unfold oNe; rw [hx, hy], h⟩
theorem u_isN {x : D} (h : Q (.bl (isNonD x))) : Od (oIsN x .non s) Q := ⟨_, rfl, h⟩
theorem u_notN {x : D} (h : Q (.bl (!isNonD x))) : Od (oNotN x .non s) Q := ⟨_, rfl, h⟩
theorem u_ixL {xs : List D} {d : D} (e : atI xs i = some d) (h : Q d) : Od (oIx (.lst xs) (.int i) s) Q := ⟨_, e, h⟩
theorem u_ixC {xs : List D} {d : D} {k : Nat} (hk : lcG s k = some xs) (e : atI xs i = some d) (h : Q d) : Od (oIx (.cell k) (.int i) s) Q := ⟨d, by show (match lcG s k with | some xs => atI xs i | none => none) = _; rw [hk]; exact e, h⟩
theorem u_now {α : Type} {o : Option α} {a : α} {Q : α → Prop} (e : o = some a) (h : Q a) : Od o Q := ⟨a, e, h⟩
end
theorem inR_t {i : Int} (h : -(2 ^ 62) ≤ i) (h' : i < 2 ^ 62) : inR i = true := by
  unfold inR
  rw [decide_eq_true h, decide_eq_true h']
  rfl
theorem mulC_r {i j : Int} (h : -(2 ^ 64) < j) (h' : j < 2 ^ 64) : mulC i j = true := by
  unfold mulC
  rw [decide_eq_true h, decide_eq_true h']
  simp
theorem mulC_l {i j : Int} (h : -(2 ^ 64) < i) (h' : i < 2 ^ 64) : mulC i j = true := by
  unfold mulC
  rw [decide_eq_true h, decide_eq_true h']
  simp
theorem divC_t {i j : Int} (h : 0 < j) (h' : j.natAbs < 2 ^ 9000) : divC i j = true := by
  unfold divC
  rw [decide_eq_true h, decide_eq_true ((Nat.log2_lt (by omega)).mpr h')]
  rfl
theorem divC_s {i j : Int} (h : 0 < j) (h' : j < 2 ^ 100) : divC i j = true :=
  divC_t h (Nat.lt_of_lt_of_le (m := 2 ^ 100) (by omega) (Nat.pow_le_pow_right (by decide) (by decide)))
theorem loop_inv {chk : Sto → Bool} {asg : D → Env → Option Env} {body : SS} (I : Nat → Env → Sto → Prop) : ∀ (xs : List D) (n : Nat) (env : Env) (st : Sto), I n env st →
    (∀ (i : Nat) (x : D) (e : Env) (s : Sto), xs[i]? = some x → I (n + i) e s → chk s = true ∧ ∃ e1, asg x e = some e1 ∧ Ok (body e1 s) fun o s2 => ∃ e2, (o = .nx e2 ∨ o = .ct e2) ∧ I (n + i + 1) e2 s2) → (∀ e s, I (n + xs.length) e s → chk s = true) →
    Ok (loopM chk asg body xs env st) fun o s' => ∃ e', o = .nx e' ∧ I (n + xs.length) e' s'
  | [], n, env, st, h, _, hc => ⟨_, st, by unfold loopM; rw [if_pos (hc _ _ h)], env, rfl, h⟩
  | x :: xs, n, env, st, h, hs, hc => by
    obtain ⟨c, e1, a1, o, s2, b, e2, ho, h2⟩ := hs 0 x env st rfl h
    obtain ⟨o', s', r, e', rfl, q⟩ := loop_inv I xs (n + 1) e2 s2 h2 (fun i y e s hi z => by
      have := hs (i + 1) y e s hi (by rwa [show n + (i + 1) = n + 1 + i by omega])
      rwa [show n + (i + 1) + 1 = n + 1 + i + 1 by omega] at this) (fun e s z => hc e s (by rwa [List.length_cons, show n + (xs.length + 1) = n + 1 + xs.length by omega]))
    refine ⟨_, s', ?_, e', rfl, by rwa [List.length_cons, show n + (xs.length + 1) = n + 1 + xs.length by omega]⟩
    unfold loopM
    rw [if_pos c, a1]
    dsimp only
    rw [b]
    rcases ho with rfl | rfl
    · exact r
    · exact r
/-- a comprehension whose store does not change -/
theorem comp_map {chk : Sto → Bool} {asg : D → Env → Option Env} {cond : SB} {elt : SE} {env0 : Env} {st : Sto} (p : D → Bool) (f : D → D) (hc : chk st = true) : ∀ (xs : List D),
    (∀ x ∈ xs, ∃ e1, asg x env0 = some e1 ∧ cond e1 st = some (p x, st) ∧ (p x = true → elt e1 st = some (f x, st))) → compM chk asg cond elt env0 xs st = some ((xs.filter p).map f, st)
  | [], _ => by unfold compM; rw [if_pos hc]; rfl
  | x :: xs, h => by
    obtain ⟨e1, a, c, e⟩ := h x (List.mem_cons_self ..)
    have ih := comp_map p f hc xs fun y hy => h y (List.mem_cons_of_mem _ hy)
    unfold compM
    rw [if_pos hc, a]
    dsimp only
    rw [c]
    cases hp : p x with
    | false =>
      dsimp only
      rw [ih, List.filter_cons_of_neg (by simp [hp])]
    | true =>
      dsimp only
      rw [e hp]
      dsimp only
      rw [ih, List.filter_cons_of_pos hp]
      rfl
end LW

/-! LwQ: how a mirror runs, II: comprehensions, makers, lists. -/
namespace LW
open PySem L2
theorem comp_inv {chk : Sto → Bool} {asg : D → Env → Option Env} {cond : SB} {elt : SE} {env0 : Env} (I : List D → Sto → Prop) : ∀ (xs : List D) (acc : List D) (st : Sto), I acc st →
    (∀ x ∈ xs, ∀ acc s, I acc s → ∃ e1, asg x env0 = some e1 ∧ Ok (cond e1 s) fun b s1 => if b = true then Ok (elt e1 s1) fun y s2 => I (acc ++ [y]) s2 else I acc s1) → (∀ acc s, I acc s → chk s = true) →
    Ok (compM chk asg cond elt env0 xs st) fun ys s => I (acc ++ ys) s
  | [], acc, st, h, _, hc => ⟨_, st, by unfold compM; rw [if_pos (hc _ _ h)], by rw [List.append_nil]; exact h⟩
  | x :: xs, acc, st, h, hs, hc => by
    obtain ⟨e1, a1, b, s1, hb, h1⟩ := hs x (List.mem_cons_self ..) acc st h
    cases b with
    | false =>
      obtain ⟨ys, s2, r, q⟩ := comp_inv I xs acc s1 h1 (fun y hy => hs y (List.mem_cons_of_mem _ hy)) hc
      exact ⟨ys, s2, by unfold compM; rw [if_pos (hc _ _ h), a1]; dsimp only; rw [hb]; exact r, q⟩
    | true =>
      obtain ⟨y, s2, hy, h2⟩ := h1
      obtain ⟨ys, s3, r, q⟩ := comp_inv I xs (acc ++ [y]) s2 h2 (fun y hy => hs y (List.mem_cons_of_mem _ hy)) hc
      refine ⟨y :: ys, s3, ?_, by rw [List.append_assoc] at q; exact q⟩
      unfold compM
      rw [if_pos (hc _ _ h), a1]
      dsimp only
      rw [hb]
      dsimp only
      rw [hy]
      dsimp only
      rw [r]
theorem comp_all {chk : Sto → Bool} {asg : D → Env → Option Env} {cond : SB} {elt : SE} {env0 : Env} {st : Sto} (p : D → Bool) (f : D → D) (hc : chk st = true) (xs : List D)
    (h : ∀ x ∈ xs, ∃ e1, asg x env0 = some e1 ∧ Ok (cond e1 st) (fun b s => b = p x ∧ s = st) ∧ (p x = true → Ok (elt e1 st) fun y s => y = f x ∧ s = st)) {Q : List D → Sto → Prop} (hq : Q ((xs.filter p).map f) st) : Ok (compM chk asg cond elt env0 xs st) Q :=
  ⟨_, _, comp_map p f hc xs fun x hx => by
    obtain ⟨e1, a, c, e⟩ := h x hx
    exact ⟨e1, a, c.eq, fun z => (e z).eq⟩, hq⟩
/-- a list of whole numbers, as data or as a cell -/
def IsL (s : Sto) (d : D) (cs : List Int) : Prop := d = .lst (cs.map D.int) ∨ ∃ j, d = .cell j ∧ s[j]? = some (cs.map D.int)
theorem noTag_ints {cs : List Int} : isTag (cs.map D.int) = false := by cases cs <;> rfl
theorem lcG_ints {s : Sto} {j : Nat} {cs : List Int} (e : s[j]? = some (cs.map D.int)) : lcG s j = some (cs.map D.int) := lcG_of e noTag_ints
theorem IsL.get {s : Sto} {d : D} {cs : List Int} (h : IsL s d cs) : lstR s d = some (cs.map D.int) := by
  rcases h with rfl | ⟨j, rfl, e⟩
  · rfl
  · exact lcG_ints e
theorem IsL.ints {s : Sto} {d : D} {cs : List Int} (h : IsL s d cs) : lstI s d = some cs := by
  unfold lstI
  rw [h.get]
  exact intsOf_map _
theorem IsL.ty {s : Sto} {d : D} {cs : List Int} (h : IsL s d cs) : ty7 s d = some .lst := by
  rcases h with rfl | ⟨j, rfl, e⟩
  · rfl
  · show (match lcG s j with | some _ => some Ty7.lst | none => none) = _
    rw [lcG_ints e]
theorem IsL.lst {s : Sto} {cs : List Int} : IsL s (.lst (cs.map D.int)) cs := .inl rfl
theorem IsL.cell {s : Sto} {j : Nat} {cs : List Int} (h : s[j]? = some (cs.map D.int)) : IsL s (.cell j) cs := .inr ⟨j, rfl, h⟩
theorem py_ints {n : Nat} {st : Sto} : ∀ (cs : List Int), mapO (toPy (n + 1) st) (cs.map D.int) = some (cs.map PyData.int)
  | [] => rfl
  | c :: cs => by
    unfold mapO
    rw [List.map_cons]
    dsimp only
    have e : toPy (n + 1) st (.int c) = some (.int c) := by unfold toPy; rfl
    rw [e]
    dsimp only
    rw [py_ints cs]
    rfl
theorem IsL.py {s : Sto} {d : D} {cs : List Int} {n : Nat} (h : IsL s d cs) : toPy (n + 2) s d = some (.list (cs.map PyData.int)) := by
  rcases h with rfl | ⟨j, rfl, e⟩
  · unfold toPy
    dsimp only
    rw [py_ints]
  · unfold toPy
    dsimp only
    rw [lcG_ints e]
    dsimp only
    rw [py_ints]
section
variable {env : Env} {st s : Sto} {fe : SE} {fs : SA} {QI : Src → Sto → Prop} {Q : D → Prop} {f : SS} {d : D} {cs : List Int} {i : Int}
theorem z_rg3 (h : Ok (fs env st) fun ds s => ∃ i j k, ds = [.int i, .int j, .int k] ∧ ((k ≠ 0 ∧ k.natAbs < 1073741824) ∧ Builtin.Range.small i j k = true ∧ Builtin.Range.rangeSize i j k = ((Builtin.Range.rangeSize i j k).toNat : Int)) ∧ QI (rangeD i k (Builtin.Range.rangeSize i j k).toNat, noChk) s) : Ok (iRg3 fs env st) QI := by
  obtain ⟨ds, s1, e1, i, j, k, rfl, r, q⟩ := h
  exact ⟨_, s1, by unfold iRg3; rw [e1]; dsimp only; rw [if_pos r], q⟩
end
end LW

/-! LwR: repr of numbers and lists, as mirrors see it. -/
namespace LW
open PySem L2
theorem strOk_of (s : String) : PyData.strOk (Str.ofString s) = true := by
  unfold PyData.strOk
  rw [Str.ofString_eq_toList, List.all_toArray, List.all_eq_true]
  intro n hn
  obtain ⟨c, _, rfl⟩ := List.mem_map.mp hn
  have h := c.valid
  refine decide_eq_true ?_
  rcases h with h | h
  · exact Nat.lt_trans h (by decide)
  · exact h.2
theorem strOk_app {a b : Str} (h : PyData.strOk a = true) (h' : PyData.strOk b = true) : PyData.strOk (a ++ b) = true := by
  unfold PyData.strOk at h h' ⊢
  rw [Str.cps_append, Array.all_append, h, h']
  rfl
theorem strOk_text : ∀ (ts : List Str) (k : Nat) (acc : Str), PyData.strOk acc = true → (∀ t ∈ ts, PyData.strOk t = true) → PyData.strOk (textFrom k acc ts) = true
  | [], k, acc, h, _ => h
  | t :: ts, k, acc, h, ht => strOk_text ts (k + 1) _ (strOk_app (strOk_app h (strOk_of _)) (ht t (List.mem_cons_self ..))) fun u hu => ht u (List.mem_cons_of_mem _ hu)
theorem strOk_list {ts : List Str} (h : ∀ t ∈ ts, PyData.strOk t = true) : PyData.strOk (listText ts) = true := strOk_app (strOk_text ts 0 _ (strOk_of _) h) (strOk_of _)
structure Sh (p : PyData) (n : Nat) : Prop where
  sh : p.showable = true
  ln : p.shown.length ≤ n
  ok : PyData.strOk p.shown = true
theorem sh_int {i : Int} (h : i.natAbs < 10 ^ 12) : Sh (.int i) 13 where
  sh := by
    unfold PyData.showable
    by_cases h0 : i.natAbs = 0
    · rw [h0]
      exact decide_eq_true (by decide)
    · exact decide_eq_true ((Nat.log2_lt h0).mpr (Nat.lt_of_lt_of_le h (Nat.le_trans (m := 2 ^ 40) (by decide) (Nat.pow_le_pow_right (by decide) (by decide)))))
  ln := PyData.shown_int_le h
  ok := by
    unfold PyData.shown
    exact strOk_of _
theorem sh_non : Sh .none 13 where
  sh := by unfold PyData.showable; rfl
  ln := by unfold PyData.shown; decide
  ok := by
    unfold PyData.shown
    exact strOk_of _
theorem sh_all {n : Nat} : ∀ (xs : List PyData), (∀ x ∈ xs, Sh x n) → PyData.showableAll xs = true ∧ ((PyData.shownAll xs).map (·.length)).sum ≤ n * xs.length ∧ (PyData.shownAll xs).length = xs.length ∧ ∀ t ∈ PyData.shownAll xs, PyData.strOk t = true
  | [], _ => ⟨by unfold PyData.showableAll; rfl, by unfold PyData.shownAll; simp, by unfold PyData.shownAll; rfl, by unfold PyData.shownAll; intro t h; cases h⟩
  | x :: xs, h => by
    obtain ⟨h1, h2, h3, h4⟩ := sh_all xs fun y hy => h y (List.mem_cons_of_mem _ hy)
    have hx := h x (List.mem_cons_self ..)
    unfold PyData.showableAll PyData.shownAll
    refine ⟨by rw [hx.sh, h1]; rfl, ?_, by rw [List.length_cons, List.length_cons, h3], ?_⟩
    · rw [List.map_cons, List.sum_cons, List.length_cons, Nat.mul_add]
      have := hx.ln
      omega
    · intro t ht
      rcases List.mem_cons.mp ht with rfl | ht
      · exact hx.ok
      · exact h4 t ht
theorem sh_list {n : Nat} {xs : List PyData} (h : ∀ x ∈ xs, Sh x n) : Sh (.list xs) ((n + 2) * xs.length + 3) := by
  obtain ⟨h1, h2, h3, h4⟩ := sh_all xs h
  refine ⟨by unfold PyData.showable; exact h1, ?_, by unfold PyData.shown; exact strOk_list h4⟩
  unfold PyData.shown
  have := listText_len_le (PyData.shownAll xs)
  rw [h3] at this
  rw [Nat.add_mul]
  omega
theorem sh_mono {p : PyData} {n m : Nat} (h : Sh p n) (hm : n ≤ m) : Sh p m := ⟨h.sh, Nat.le_trans h.ln hm, h.ok⟩
section
variable {s : Sto} {Q : D → Prop} {d : D} {p : PyData} {n : Nat} {x : Str}
theorem py_str (h : PyData.strOk x = true) {k : Nat} : toPy (k + 1) s (.str x) = some (.str x) := by
  unfold toPy
  dsimp only
  rw [if_pos h]
theorem u_neS (h : PyData.strOk x = true) (q : Q (.bl false)) : Od (oNe (.str x) (.str x) s) Q := by
  refine u_ne (py_str h) (py_str h) ?_
  have e : PyData.eqv (.str x) (.str x) = true := by
    unfold PyData.eqv
    exact beq_self_eq_true x
  rw [e]
  exact q
end
end LW

/-! LwS: more words: int(..), a <= b <= c, whole numbers of the module, enumerate. -/
namespace LW
open PySem L2 PyProof.Rows
/-! ### int(x) -/
section
variable {mg : Glob} {X : Cx} {e : Expr} {es : List Expr} {p pos : Pos} {f : SA}
end
/-! ### whole numbers of the module -/
/-! ### a op b op c -/
section
variable {mg : Glob} {X : Cx} {a b c : Expr} {fa fb fc : SE} {p q : Int → Int → Bool} {o o' : CmpOp} {pos : Pos}
end
/-! ### enumerate(list) -/
section
variable {mg : Glob} {X : Cx} {e : Expr} {elts : List Expr} {kk : Nat} {p pos tpos : Pos} {f : SA}
end
end LW

/-! LwT: sorted(set(list of whole numbers)). -/
namespace LW
open PySem L2 PySem.Spec PyProof.Rows
section
variable {P : Program} {w : World} {A : Around} {E : Value → Shared → Prop} {s : Shared}
end
end LW

/-! LwU: sorted(set(..)) as a reading and as plain data. -/
namespace LW
open PySem L2 PySem.Spec PyProof.Rows
/-! ### the plain word -/
/-! ### the reading -/
section
variable {X : Cx}
end
/-! ### and as data -/
end LW

/-! LwV: sorted(list of whole numbers). -/
namespace LW
open PySem L2 PySem.Spec PyProof.Rows
section
variable {mg : Glob} {X : Cx} {e : Expr} {es : List Expr} {p pos : Pos} {f : SA}
end
end LW

/-! LwW: sorted(set(..)) of longer lists with few members; xs[::-1]. -/
namespace LW
open PySem L2 PySem.Spec PyProof.Rows
section
variable {X : Cx}
end
/-! ### xs[::-1] -/
end LW

/-! LwX: a, b, c = x, y, z. -/
namespace LW
open PySem L2 PySem.Spec PyProof.Rows
def sPar3 (i j l : Nat) (fa fb fc : SE) : SS := fun env st => match fa env st with
  | some (x, s1) => match fb env s1 with
    | some (y, s2) => match fc env s2 with
      | some (z, s3) => some (.nx (((env.set i (.val x)).set j (.val y)).set l (.val z)), s3)
      | none => none
    | none => none
  | none => none
section
variable {mg : Glob} {X : Cx} {a b c : Expr} {pos : Pos} {fa fb fc : SE}
end
theorem z_par3 {i j l : Nat} {fa fb fc : SE} {env : LW.Env} {st : Sto} {QS : Out → Sto → Prop} (h : Ok (fa env st) fun x s1 => Ok (fb env s1) fun y s2 => Ok (fc env s2) fun z s3 => QS (.nx (((env.set i (.val x)).set j (.val y)).set l (.val z))) s3) : Ok (sPar3 i j l fa fb fc env st) QS := by
  obtain ⟨x, s1, e1, y, s2, e2, z, s3, e3, q⟩ := h
  exact ⟨_, s3, by unfold sPar3; rw [e1]; dsimp only; rw [e2]; dsimp only; rw [e3], q⟩
end LW

/-! LwYa: texts: in, walks over signs, sorted; insert; where a recursion ends. -/
namespace LW
open PySem L2 PyProof.Rows PySem.Spec
/-! ### texts in lists -/
def strsOf : List D → Option (List Str)
  | [] => some []
  | .str x :: r => (match strsOf r with
    | some xs => some (x :: xs)
    | none => none)
  | _ => none
section
variable {mg : Glob} {N : Prot} {c : List Addr} {H : Hp} {st : Sto} {u : V} {x : D}
end
def lstS (st : Sto) (x : D) : Option (List Str) := match lstR st x with
  | some xs => strsOf xs
  | none => none
/-! ### in -/
section
variable {mg : Glob} {X : Cx} {a b : Expr} {pos : Pos} {fa fb : SE}
end
/-! ### a text of the module; walks over signs -/
/-! ### sorted texts -/
abbrev cpL (a : Str) : List Nat := a.cps.toList
def leS (a b : Str) : Prop := cpL a ≤ cpL b
instance {a b : Str} : Decidable (leS a b) := inferInstanceAs (Decidable (cpL a ≤ cpL b))
def insS (x : Str) : List Str → List Str
  | [] => [x]
  | y :: r => if leS x y then x :: y :: r else y :: insS x r
def sortS (zs : List Str) : List Str := zs.foldr insS []
section
variable {mg : Glob} {X : Cx} {e : Expr} {es : List Expr} {p pos : Pos} {f : SA}
end
/-! ### where a recursion ends -/
theorem OkF.mono {P : Program} {w : World} {K : PySem.W.Frag} {mg : Str → Option Value} {base : Heap} {j k : Nat} {x : Str} {ps : List Str} {g : FM} (h : OkF P w K mg base j x ps g) (hl : j ≤ k) : OkF P w K mg base k x ps g := by
  obtain ⟨f, fd, hm, hk, F, hb, ar⟩ := h
  exact ⟨f, fd, hm, hk, F.mono hl, hb, ar⟩
/-! ### insert -/
section
variable {mg : Glob} {X : Cx} {e ej : Expr} {pos apos cpos : Pos} {fe fj : SE}
end
end LW

/-! LwYb: dicts whose keys are numbers and texts: as data. -/
namespace LW
open PySem L2 PyProof.Rows
abbrev DK := List Key × List D
instance memKdec (x : Key) (ks : List Key) : Decidable (x ∈ ks) := decidable_of_iff ((ks.any fun y => decide (y = x)) = true) (by
  rw [List.any_eq_true]
  exact ⟨fun ⟨y, h, e⟩ => of_decide_eq_true e ▸ h, fun h => ⟨x, h, decide_eq_true rfl⟩⟩)
/-! ### plain words -/
def keyD : D → Option Key
  | .int i => some (.inl i)
  | .str z => some (.inr z)
  | _ => none
def keyV : Key → D
  | .inl i => .int i
  | .inr z => .str z
theorem keyD_V {k : Key} : keyD (keyV k) = some k := by cases k <;> rfl
theorem keyD_eq {d : D} {k : Key} (h : keyD d = some k) : d = keyV k := by
  cases d <;> first | (cases h; rfl) | cases h
def getD : List Key → List D → Key → Option D
  | k :: ks, d :: ds, x => if k = x then some d else getD ks ds x
  | _, _, _ => none
def putV : List Key → List D → Key → D → List D
  | k :: ks, d :: ds, x, y => (if k = x then y else d) :: putV ks ds x y
  | _, _, _, _ => []
def putKD (p : DK) (x : Key) (y : D) : DK := if x ∈ p.1 then (p.1, putV p.1 p.2 x y) else (p.1 ++ [x], p.2 ++ [y])
def mergeD (acc : DK) (l : List (Key × D)) : DK := l.foldl (fun a kv => putKD a kv.1 kv.2) acc
/-- pairs (key, value) of a list of tuples -/
def pairsOf : List D → Option (List (Key × D))
  | [] => some []
  | .tup [a, b] :: r => (match keyD a, pairsOf r with
    | some k, some l => some ((k, b) :: l)
    | _, _ => none)
  | _ => none
section
variable {mg : Glob} {N : Prot} {c : List Addr} {H : Hp} {st : Sto} {u : V} {x : D}
theorem RepT.key {k : Key} (h : RepT mg N c H u x) (e : keyD x = some k) : u = kV k := by
  have := keyD_eq e
  subst this
  cases k with
  | inl i => exact h.int
  | inr z => exact h.str
theorem Rep.key {k : Key} : Rep mg N c H (kV k) (keyV k) := by
  cases k with
  | inl i => exact .int i
  | inr z => exact .str z
theorem RepT.dic {ks : List Key} {ds : List D} (h : RepT mg N c H u (.dic ks ds)) : ∃ a kvs, u = .ref a ∧ Rd H a (.dK kvs) ∧ kvs.map (·.1) = ks ∧ RepL mg N c H (kvs.map (·.2)) ds := by
  rcases h with h | ⟨_, _, _, _, e, _⟩
  · cases h with
    | dic h n hn r => exact ⟨_, _, rfl, .inl h, hn, r⟩
    | dfz h n hn r => exact ⟨_, _, rfl, .inr ⟨_, h⟩, hn, r⟩
  · cases e
theorem any_mem {kvs : List (Key × V)} {k : Key} : (kvs.any fun kv => decide (kv.1 = k)) = decide (k ∈ kvs.map (·.1)) := by
  rw [List.any_eq, decide_eq_decide]
  constructor
  · rintro ⟨kv, h1, h2⟩
    exact List.mem_map.mpr ⟨kv, h1, of_decide_eq_true h2⟩
  · intro h
    obtain ⟨kv, h1, h2⟩ := List.mem_map.mp h
    exact ⟨kv, h1, decide_eq_true h2⟩
theorem putV_rel {v : V} {d : D} {k : Key} (h : Rep mg N c H v d) : ∀ {kvs : List (Key × V)} {ds : List D}, RepL mg N c H (kvs.map (·.2)) ds → RepL mg N c H ((kvs.map (fun kv => if kv.1 = k then (kv.1, v) else kv)).map (·.2)) (putV (kvs.map (·.1)) ds k d)
  | [], _, .nil => .nil
  | kv :: r, _, .cons q t => by
    rw [List.map_cons, List.map_cons, List.map_cons]
    unfold putV
    by_cases e : kv.1 = k
    · rw [if_pos e, if_pos e]
      exact .cons h (putV_rel h t)
    · rw [if_neg e, if_neg e]
      exact .cons q (putV_rel h t)
theorem put_rel {v : V} {d : D} {k : Key} {kvs : List (Key × V)} {ds : List D} (h : Rep mg N c H v d) (r : RepL mg N c H (kvs.map (·.2)) ds) : (putK kvs k v).map (·.1) = (putKD (kvs.map (·.1), ds) k d).1 ∧ RepL mg N c H ((putK kvs k v).map (·.2)) (putKD (kvs.map (·.1), ds) k d).2 := by
  unfold putK putKD
  rw [any_mem]
  by_cases e : k ∈ kvs.map (·.1)
  · rw [if_pos (decide_eq_true e), if_pos e]
    refine ⟨?_, putV_rel h r⟩
    rw [List.map_map]
    refine List.map_congr_left fun kv _ => ?_
    show (if kv.1 = k then (kv.1, v) else kv).1 = kv.1
    split <;> rfl
  · rw [if_neg (by rw [decide_eq_false e]; exact Bool.false_ne_true), if_neg e]
    exact ⟨by rw [List.map_append]; rfl, by rw [List.map_append]; exact r.append (.cons h .nil)⟩
theorem merge_rel : ∀ {l : List (Key × D)} {more : List (Key × V)} {kvs : List (Key × V)} {ds : List D}, RepL mg N c H (kvs.map (·.2)) ds → more.map (·.1) = l.map (·.1) → RepL mg N c H (more.map (·.2)) (l.map (·.2)) → (mergeK kvs more).map (·.1) = (mergeD (kvs.map (·.1), ds) l).1 ∧ RepL mg N c H ((mergeK kvs more).map (·.2)) (mergeD (kvs.map (·.1), ds) l).2
  | [], [], kvs, ds, r, _, _ => ⟨rfl, r⟩
  | [], _ :: _, _, _, _, e, _ => by cases e
  | _ :: _, [], _, _, _, e, _ => by cases e
  | kd :: l, kv :: more, kvs, ds, r, e, .cons h t => by
    have e1 : kv.1 = kd.1 := by injection e
    have e2 : more.map (·.1) = l.map (·.1) := by injection e
    obtain ⟨p1, p2⟩ := put_rel (k := kd.1) h r
    show (mergeK (putK kvs kv.1 kv.2) more).map (·.1) = (mergeD (putKD (kvs.map (·.1), ds) kd.1 kd.2) l).1 ∧ RepL mg N c H ((mergeK (putK kvs kv.1 kv.2) more).map (·.2)) (mergeD (putKD (kvs.map (·.1), ds) kd.1 kd.2) l).2
    rw [e1]
    have ih := merge_rel (l := l) (more := more) p2 e2 t
    rw [p1] at ih
    exact ih
theorem pairs_rel : ∀ {xs : List D} {vs : List V} {l : List (Key × D)}, RepL mg N c H vs xs → pairsOf xs = some l → ∃ (ps : List Addr) (kvs : List (Key × V)), vs = ps.map V.ref ∧ Paired (fun p kv => SqT mg.K H p [kV kv.1, kv.2]) ps kvs ∧ kvs.map (·.1) = l.map (·.1) ∧ RepL mg N c H (kvs.map (·.2)) (l.map (·.2))
  | [], _, _, .nil, e => by cases e; exact ⟨[], [], rfl, .nil, rfl, .nil⟩
  | x :: xs, _, l, .cons h t, e => by
    unfold pairsOf at e
    split at e
    · rename_i heq
      cases heq
    · rename_i a b r heq
      cases heq
      split at e
      · rename_i k l' hk hl
        cases e
        obtain ⟨ps, kvs, rfl, hp, e1, r1⟩ := pairs_rel t hl
        obtain ⟨p, us, rfl, hh, rr⟩ := RepT.tup (.inl h)
        cases rr with
        | cons ha tt => cases tt with
          | cons hb tt => cases tt with
            | nil =>
              have ek := RepT.key (.inl ha) hk
              subst ek
              exact ⟨p :: ps, (k, _) :: kvs, rfl, .cons (SqT.of hh) hp, by rw [List.map_cons, List.map_cons, e1], .cons hb r1⟩
      · cases e
    · cases e
end
/-! ### a new dict -/
def RD (mg : Glob) : Told DK := fun _ _ H N' c' H' v d => ∃ p kvs, v = .ref p ∧ H p = none ∧ N' p ∧ p ∉ c' ∧ H' p = some (.dK kvs) ∧ kvs.map (·.1) = d.1 ∧ RepL mg N' c' H' (kvs.map (·.2)) d.2
abbrev tD (mg : Glob) (f : Fx DK) : TE := tX mg (RD mg) f
def eD (f : Fx DK) : SE := fun env st => (f env st).map fun p => (.dic p.1.1 p.1.2, p.2)
section
variable {mg : Glob} {N N' : Prot} {c c' : List Addr} {H H' : Hp} {st st' : Sto} {v : V} {X : Cx} {e : Expr}
theorem back_D : Back mg (RD mg) := fun W x W1 ⟨p, vs, e, hp, r⟩ => ⟨p, vs, e, x.free W W1 hp, r⟩
theorem RD.give {d : DK} (W : Wd mg N c H st) (x : Ex N c H N' c' H') (W' : Wd mg N' c' H' st') (h : RD mg N c H N' c' H' v d) : ∃ N'', Ex N c H N'' c' H' ∧ Wd mg N'' c' H' st' ∧ Rep mg N'' c' H' v (.dic d.1 d.2) := by
  obtain ⟨p, kvs, rfl, hp, np, nc, hv, hm, r⟩ := h
  have less : ∀ a, (N' a ∧ a ≠ p) → N' a := fun a z => z.1
  refine ⟨fun a => N' a ∧ a ≠ p, ⟨x.keep, fun a z => x.new a z.1, fun a z => ⟨x.mono a z, fun e => W.trk a z (by rw [e]; exact hp)⟩, x.pre, x.newc⟩, W'.less less fun a z => ⟨W'.cn a z, fun e => nc (e ▸ z)⟩, ?_⟩
  exact .dic hv (fun z => z.2 rfl) hm (r.tr (Tr.less less))
theorem d_giveD {f : Fx DK} (h : PE X e (tD mg f)) : PE X e (tE mg (eD f)) := pe_weak h fun σ H Q ⟨E, N, c, env, st, d, st', R, q, k⟩ => by
  unfold eD at q
  cases qf : f env st with
  | none => rw [qf] at q; cases q
  | some p =>
    obtain ⟨xs, s1⟩ := p
    rw [qf] at q
    cases q
    refine ⟨E, N, c, env, st, xs, _, R, qf, fun v N' c' H' x W r => ?_⟩
    obtain ⟨N'', x2, W2, r2⟩ := r.give R.wd x W
    exact k v N'' c' H' x2 W2 r2
theorem RD.laid {kvs : List (Key × V)} {d : DK} {p : Addr} (W : Wd mg N c H st) (hp : H p = none) (hm : kvs.map (·.1) = d.1) (r : RepL mg N c H (kvs.map (·.2)) d.2) : RD mg N c H (fun a => N a ∨ a = p) c (upd H p (.dK kvs)) (.ref p) d :=
  ⟨p, kvs, rfl, hp, .inr rfl, W.cnone hp, upd_same, hm, r.tr ((Ex.laidN W hp).tr W)⟩
end
/-! ### dict(list of pairs), dict(d), {} -/
/-- a dict that may be read -/
def dicG (st : Sto) : D → Option DK
  | .dic ks ds => some (ks, ds)
  | .dcl k => dcG st k
  | _ => none
theorem RepT.dicG {mg : Glob} {N : Prot} {c : List Addr} {H : Hp} {st : Sto} {u : V} {x : D} {p : DK} (W : Wd mg N c H st) (h : RepT mg N c H u x) (e : dicG st x = some p) : ∃ a kvs, u = .ref a ∧ Rd H a (.dK kvs) ∧ kvs.map (·.1) = p.1 ∧ RepL mg N c H (kvs.map (·.2)) p.2 := by
  cases x with
  | dic ks ds => cases e; exact h.dic
  | dcl k =>
    rcases h with h | ⟨_, _, _, _, z, _⟩
    · cases h with
      | dcl hc =>
        obtain ⟨kvs, ha, hn, r⟩ := W.dcG hc e
        exact ⟨_, kvs, rfl, ha, hn, r⟩
    · cases z
  | _ => cases e
def gDictP : List D → Sto → Option DK := fun ds st => match ds with
  | [x] => (match lstR st x with
    | some xs => (match pairsOf xs with
      | some l => some (mergeD ([], []) l)
      | none => none)
    | none => none)
  | _ => none
def rDictP (K : PySem.W.Frag) : List V → Hp → VK → Prop := fun xs H Q => ∃ (a : Addr) (ps : List Addr) (kvs : List (Key × V)), xs = [.ref a] ∧ SqL K H a (ps.map V.ref) ∧ Paired (fun p kv => SqT K H p [kV kv.1, kv.2]) ps kvs ∧ ∀ p, H p = none → Q (.ref p) (upd H p (.dK (mergeK [] kvs)))
theorem ok_dictP {mg : Glob} : BiOk mg (RD mg) (rDictP mg.K) gDictP := by
  intro N c H st us ds d Q W p q k
  unfold gDictP at q
  split at q
  · rename_i x
    split at q
    · rename_i xs hx
      split at q
      · rename_i l hl
        cases q
        obtain ⟨u, rfl, h⟩ := tl1 p
        obtain ⟨a, vs, rfl, ha, r⟩ := RepT.read W h hx
        obtain ⟨ps, kvs, rfl, hp, e1, r1⟩ := pairs_rel r hl
        refine ⟨a, ps, kvs, rfl, ha, hp, fun p hp => ?_⟩
        obtain ⟨m1, m2⟩ := merge_rel (l := l) (more := kvs) (kvs := []) (ds := []) .nil e1 r1
        exact k _ _ _ _ (Ex.laidN W hp) (W.laidN hp) (RD.laid W hp m1 m2)
      · cases q
    · cases q
  · cases q
def lD0 : Fx DK := fun _ st => some (([], []), st)
section
variable {mg : Glob} {X : Cx} {e : Expr} {es : List Expr} {p pos : Pos} {f : SA}
theorem d_dictP (hc : X.calm = true) (hm : X.mg "dict" = none) (ha : PA X (e :: es) (tAP mg f)) (hg : Gl X "dict" := by rfl) (he : starEach (e :: es) X.env = (false, eval e X.env) :: starEach es X.env := by rfl) (hpl : (backTo pos (starEach es X.env)).any (·.1) = false := by rfl) (hK : X.K = mg.K := by rfl) : PE X (.Call (.Name "dict" p) (e :: es) [] pos) (tD mg (eBi gDictP f)) :=
  d_bt (hK ▸ call_dictP hc) ok_dictP back_D hg hm (by decide +kernel) ha (by decide) (by decide) he hpl
end
/-! ### d[k], k in d -/
section
variable {mg : Glob} {X : Cx} {a b : Expr} {pos : Pos} {fa fb : SE}
end
/-! ### sorted(d) -/
def strKeys : List Key → Option (List Str)
  | [] => some []
  | .inr z :: r => (match strKeys r with
    | some l => some (z :: l)
    | none => none)
  | _ => none
section
variable {mg : Glob} {X : Cx} {e : Expr} {es : List Expr} {p pos : Pos} {f : SA}
end
end LW

/-! LwYc: comprehensions over the keys of a dict; a dict of the frame's own. -/
namespace LW
open PySem L2 PyProof.Rows
/-- a heap in which dicts are locked or unlocked -/
structure Lk (N : Prot) (H H' : Hp) : Prop where
  keep : ∀ a o, H a = some o → (∀ kvs, ¬ (o = .dK kvs ∨ ∃ b, o = .frz b (.dK kvs))) → H' a = some o
  dic : ∀ a kvs, Rd H a (.dK kvs) → Rd H' a (.dK kvs)
  ex : ∀ a, N a → H' a = H a
section
variable {mg : Glob} {N : Prot} {c : List Addr} {H H' : Hp} {st : Sto}
theorem Lk.some (l : Lk N H H') {a : Addr} (h : H a ≠ none) : H' a ≠ none := by
  cases e : H a with
  | none => exact absurd e h
  | some o =>
    by_cases q : ∃ kvs, o = .dK kvs ∨ ∃ b, o = .frz b (.dK kvs)
    · obtain ⟨kvs, q⟩ := q
      have : Rd H a (.dK kvs) := q.elim (fun z => .inl (by rw [e, z])) fun ⟨b, z⟩ => .inr ⟨b, by rw [e, z]⟩
      rcases l.dic a kvs this with z | ⟨b, z⟩ <;> rw [z] <;> exact fun y => nomatch y
    · rw [l.keep a o e fun kvs z => q ⟨kvs, z⟩]
      exact fun y => nomatch y
mutual
theorem Rep.lk {v : V} {d : D} (l : Lk N H H') : Rep mg N c H v d → Rep mg N c H' v d
  | .non => .non
  | .bl b => .bl b
  | .int i => .int i
  | .str x => .str x
  | .ty n => .ty n
  | .cls h => .cls h
  | .tup h r => .tup (l.keep _ _ h fun kvs z => z.elim (fun y => nomatch y) fun ⟨_, y⟩ => nomatch y) (RepL.lk l r)
  | .lst h n r => .lst (l.keep _ _ h fun kvs z => z.elim (fun y => nomatch y) fun ⟨_, y⟩ => nomatch y) n (RepL.lk l r)
  | .fro h n r => .fro (l.keep _ _ h fun kvs z => z.elim (fun y => nomatch y) fun ⟨_, y⟩ => nomatch y) n (RepL.lk l r)
  | .kro h => .kro h
  | .cell h => .cell h
  | .dcl h => .dcl h
  | .ocl h => .ocl h
  | .obj hc h n hn r => .obj hc (l.keep _ _ h fun kvs z => z.elim (fun y => nomatch y) fun ⟨_, y⟩ => nomatch y) n hn (RepL.lk l r)
  | .dic h n hn r => (l.dic _ _ (.inl h)).elim (fun z => .dic z n hn (RepL.lk l r)) fun ⟨_, z⟩ => .dfz z n hn (RepL.lk l r)
  | .dfz h n hn r => (l.dic _ _ (.inr ⟨_, h⟩)).elim (fun z => .dic z n hn (RepL.lk l r)) fun ⟨_, z⟩ => .dfz z n hn (RepL.lk l r)
  | .dit h n hn r => .dit (l.keep _ _ h fun kvs z => z.elim (fun y => nomatch y) fun ⟨_, y⟩ => nomatch y) n hn (RepL.lk l r)
  | .ditz h n hn r => .ditz (l.keep _ _ h fun kvs z => z.elim (fun y => nomatch y) fun ⟨_, y⟩ => nomatch y) n hn (RepL.lk l r)
  | .err0 hc h n => .err0 hc (l.keep _ _ h fun kvs z => z.elim (fun y => ero_dK y) fun ⟨_, y⟩ => ero_frz y) n
  | .err1 hc h n hd nd r => .err1 hc (l.keep _ _ h fun kvs z => z.elim (fun y => ero_dK y) fun ⟨_, y⟩ => ero_frz y) n (l.keep _ _ hd fun kvs z => z.elim (fun y => nomatch y) fun ⟨_, y⟩ => nomatch y) nd (Rep.lk l r)
theorem RepL.lk {vs : List V} {ds : List D} (l : Lk N H H') : RepL mg N c H vs ds → RepL mg N c H' vs ds
  | .nil => .nil
  | .cons h r => .cons (Rep.lk l h) (RepL.lk l r)
end
theorem CRep.lk {o : HO} {xs : List D} (l : Lk N H H') : CRep mg N c H o xs → CRep mg N c H' o xs
  | .l r => .l (r.lk l)
  | .k r => .k (r.lk l)
  | .kz r => .kz (r.lk l)
  | .t r => .t (r.lk l)
  | .i hc r => .i hc (r.lk l)
theorem Wd.lk (l : Lk N H H') (W : Wd mg N c H st) : Wd mg N c H' st :=
  ⟨W.len, fun k a xs h1 h2 => let ⟨vs, e, r⟩ := W.sto k a xs h1 h2; ⟨vs, by rw [l.ex a (W.cn a (List.mem_of_getElem? h1))]; exact e, r.lk l⟩, W.cn, W.nd, fun a h => l.some (W.trk a h)⟩
end
/-! ### walks over the keys -/
section
variable {mg : Glob} {X : Cx} {tg : Expr} {pos : Pos}
variable {eltE : Expr} {ifs : List Expr} {scope : Scope} {own : List (Str × Nat)} {asg : D → Env → Option Env} {cond : SB} {elt : SE} {g : TG} {is : List Nat}
end
end LW

/-! LwYd: != of lists of equal things, dicts among them. -/
namespace PySem.SeqAt
open AutoSeq1 (wpAny_loadPart')
open MeetsSeq MeetsSeq2 MeetsSeq3 SeqRoads2
section
variable {P : Program} {w : World}
end
end PySem.SeqAt
namespace LW
open PySem L2 PyProof.Rows
section
variable {X : Cx} {pins : List (Addr × Obj)} {σ : L2.St} {H : Hp} {s : Shared}
end
/-! ### equal data -/
section
variable {mg : Glob} {N : Prot} {c : List Addr} {H : Hp} {st : Sto}
end
section
variable {mg : Glob} {X : Cx} {a b : Expr} {pos : Pos} {fa fb : SE}
end
/-! ### a dict of the frame's own -/
def sOwnD (i : Nat) (f : Fx DK) : SS := fun env st => match f env st with
  | some (d, s1) => some (.nx (env.set i (.ownD d.1 d.2)), s1)
  | none => none
section
variable {mg : Glob} {X : Cx} {e ej : Expr} {pos tpos : Pos} {fe fj : SE} {fl : Fx DK}
end
end LW

/-! LwYe: {k: v, ..}. -/
namespace LW
open PySem L2 PyProof.Rows
section
variable {mg : Glob}
variable {X : Cx} {pos : Pos} {keys : List (Option Expr)} {values : List Expr} {l : List (SE × SE)}
end
end LW

/-! LwYf: set(list of texts), sorted. -/
namespace LW
open PySem L2 PySem.Spec PyProof.Rows
/-! ### what a set of texts is -/
def txOf (e : Int × Value) : Str := match e.2 with
  | .str k _ => k
  | _ => ⟨#[]⟩
def TxE (w : World) (e : Int × Value) : Prop := ∃ k tk, e.2 = Value.str k tk ∧ e.1 = hashStr w k
abbrev txL (es : Array (Int × Value)) : List Str := es.toList.map txOf
/-- the table and the rows of a set that holds just the texts l -/
structure TxT (w : World) (es : Array (Int × Value)) (t : SetTable) (l : List Str) : Prop where
  row : ∀ e ∈ es.toList, TxE w e
  nd : (txL es).Nodup
  mem : ∀ k, k ∈ l ↔ k ∈ txL es
  few : es.size < scanBound
  fit : t.fits es.size = true
  ris : Ris t.place.toList
  led : w.params.followText "set-order" = true ∨ t.led = true
def SetS (w : World) (h : Heap) (a : Addr) (l : List Str) (n : Nat) : Prop := ∃ o es ep t, h.get? a = some o ∧ o.ExactSet ∧ o.data = .set es ep t ∧ TxT w es t l ∧ es.size = n
section
variable {P : Program} {w : World} {A : Around} {E : Value → Shared → Prop} {s : Shared} {a : Addr} {l : List Str} {n : Nat}
theorem SetS.at {h h' : Heap} (R : SetS w h a l n) (k : ∀ o, h.get? a = some o → h'.get? a = some o) : SetS w h' a l n := by
  obtain ⟨o, es, ep, t, ho, r⟩ := R
  exact ⟨o, es, ep, t, k o ho, r⟩
end
end LW

/-! LwYg: set(list of texts), sorted(..) of it. -/
namespace LW
open PySem L2 PySem.Spec PyProof.Rows
section
variable {P : Program} {w : World} {A : Around} {E : Value → Shared → Prop} {s : Shared}
theorem SetS.same {h : Heap} {a : Addr} {l l' : List Str} {n : Nat} (R : SetS w h a l n) (e : ∀ k, k ∈ l ↔ k ∈ l') : SetS w h a l' n := by
  obtain ⟨o, es, ep, t, ho, hx, hd, T, hn⟩ := R
  exact ⟨o, es, ep, t, ho, hx, hd, ⟨T.row, T.nd, fun k => (e k).symm.trans (T.mem k), T.few, T.fit, T.ris, T.led⟩, hn⟩
end
end LW

/-! LwYh: sorted(set(list of texts)) as data; how mirrors with dicts, texts and sets run. -/
namespace LW
open PySem L2 PySem.Spec PyProof.Rows
def insN (x : Str) : List Str → List Str
  | [] => [x]
  | y :: r => if x = y then y :: r else if leS x y then x :: y :: r else y :: insN x r
def sortN (zs : List Str) : List Str := zs.foldr insN []
section
variable {X : Cx}
end
def eSN (fa : SE) : Fx (List D) := fun env st => match fa env st with
  | some (x, s1) => (match lstS s1 x with
    | some zs => if zs.length < 64 then some ((sortN zs).map D.str, s1) else none
    | none => none)
  | none => none
/-! ### how mirrors run -/
section
variable {env : Env} {st : Sto} {Q : D → Sto → Prop} {QL : List D → Sto → Prop} {QK : DK → Sto → Prop} {QS : Out → Sto → Prop} {QI : Src → Sto → Prop} {i : Nat} {fe fj fk : SE} {f : Fx DK} {fs : SA}
theorem z_ownD (h : Ok (f env st) fun d s => QS (.nx (env.set i (.ownD d.1 d.2))) s) : Ok (sOwnD i f env st) QS := by
  obtain ⟨d, s1, e1, h⟩ := h
  exact ⟨_, s1, by unfold sOwnD; rw [e1], h⟩
theorem z_D (h : Ok (f env st) fun d s => Q (.dic d.1 d.2) s) : Ok (eD f env st) Q := by
  obtain ⟨d, s1, e1, h⟩ := h
  exact ⟨_, s1, by unfold eD; rw [e1]; rfl, h⟩
theorem z_d0 (h : QK ([], []) st) : Ok (lD0 env st) QK := ⟨_, st, rfl, h⟩
theorem z_sn (h : Ok (fe env st) fun x s => ∃ zs, lstS s x = some zs ∧ zs.length < 64 ∧ QL ((sortN zs).map D.str) s) : Ok (eSN fe env st) QL := by
  obtain ⟨x, s1, e1, zs, e2, l, q⟩ := h
  exact ⟨_, s1, by unfold eSN; rw [e1]; dsimp only; rw [e2]; dsimp only; rw [if_pos l], q⟩
end
end LW

/-! LwZa: == and != of dicts whose values are instances with an own __eq__ (the heap grows meanwhile). -/
namespace PySem.W
open PySem PySem.Calls PyProof.Rows PyProof.V PySem.Spec
section
variable {prog : Program} {w : World} {K : Type} [DecidableEq K] {knd : KeyKind prog w K} {A : Around} {E : Value → Shared → Prop} {s : Shared}
end
end PySem.W

/-! LwZb: == and != of dicts of instances with an own __eq__, as data. -/
namespace LW
open PySem L2 PyProof.Rows
/-! ### mirrors that leave the store -/
/-! ### two equal items -/
section
variable {mg : Glob} {X : Cx} {pins : List (Addr × Obj)} {σ : L2.St} {H : Hp} {s : Shared} {N : Prot} {c : List Addr} {st : Sto} {k : Nat} {C : Addr} {cs : List Str} {g : FM} {cn : Str} {E : Value → Shared → Prop}
end
section
variable {X : Cx} {k : Nat} {C : Addr} {cs : List Str} {g : FM} {cn : Str} {a b : Expr} {pos : Pos} {fa fb : SE}
end
end LW

/-! LwZc: for over the keys of a dict; a, b = {}, {}; list * int. -/
namespace LW
open PySem L2 PyProof.Rows
section
variable {mg : Glob} {N N' : Prot} {c c' : List Addr} {H H' : Hp} {st st' : Sto} {E : En} {env env' : Env} {σ σ' : L2.St} {a : Addr} {od : Obj} {kvs : List (Key × V)}
/-- the entry as seen while the dict at a is locked -/
def En.lk (E : En) (a : Addr) (o : HO) : En := ⟨upd E.H0 a o, E.N0, E.c0, E.self⟩
end
section
variable {mg : Glob} {X : Cx} {tg : Expr} {body : List Stmt} {pos : Pos} {fb : SS} {asg : D → Env → Option Env} {g : TG} {is : List Nat}
end
/-! ### a, b = two new things -/
section
variable {mg : Glob} {X : Cx} {e a b : Expr} {pos : Pos} {fe : SE} {fl : Fx (List D)} {fd : Fx DK} {fa fb : Fx Sl}
end
/-! ### list * int -/
section
variable {mg : Glob} {N : Prot} {c : List Addr} {H : Hp} {X : Cx} {a b : Expr} {pos : Pos} {fa fb : SE}
theorem RepL.rep {vs : List V} {ds : List D} (r : RepL mg N c H vs ds) : ∀ n : Nat, RepL mg N c H (List.replicate n vs).flatten (List.replicate n ds).flatten
  | 0 => .nil
  | n + 1 => by
    rw [List.replicate_succ, List.replicate_succ, List.flatten_cons, List.flatten_cons]
    exact r.append (RepL.rep r n)
end
end LW

/-! LwZd: {k: v for .. in .. if ..}. -/
namespace LW
open PySem L2 PyProof.Rows
section
variable {mg : Glob}
end
def dcM (chk : Sto → Bool) (asg : D → Env → Option Env) (cond : SB) (fk fv : SE) (env0 : Env) : List D → DK → Sto → Option (DK × Sto)
  | [], acc, st => if chk st = true then some (acc, st) else none
  | d :: ds, acc, st => if chk st = true then (match asg d env0 with
    | none => none
    | some e1 => match cond e1 st with
      | none => none
      | some (false, s1) => dcM chk asg cond fk fv env0 ds acc s1
      | some (true, s1) => match fk e1 s1 with
        | none => none
        | some (y, s2) => match fv e1 s2 with
          | none => none
          | some (z, s3) => match keyD y with
            | none => none
            | some k => dcM chk asg cond fk fv env0 ds (putKD acc k z) s3) else none
def dComp (fi : Fx Src) (asg : D → Env → Option Env) (cond : SB) (fk fv : SE) (vs : List Nat) : Fx DK := fun env st => match fi env st with
  | none => none
  | some (xs, s1) => if xs.1.length ≤ 1000000 then dcM xs.2 asg cond fk fv (wipeE env vs) xs.1 ([], []) s1 else none
section
variable {mg : Glob} {fi : Fx Src} {asg : D → Env → Option Env} {cond : SB} {fk fv : SE} {g : TG} {is vs : List Nat}
variable {X : Cx} {kx vx tg iter : Expr} {ifs : List Expr} {scope : Scope} {own : List (Str × Nat)} {pos : Pos}
end
/-! ### how mirrors run -/
section
variable {chk : Sto → Bool} {asg : D → Env → Option Env} {cond : SB} {fk fv : SE} {env0 e1 : Env} {st : Sto} {fi : Fx Src} {vs : List Nat} {QK : DK → Sto → Prop}
theorem z_dComp (h : Ok (fi env0 st) fun xs s1 => xs.1.length ≤ 1000000 ∧ Ok (dcM xs.2 asg cond fk fv (wipeE env0 vs) xs.1 ([], []) s1) QK) : Ok (dComp fi asg cond fk fv vs env0 st) QK := by
  obtain ⟨x, s1, e1, hl, h⟩ := h
  obtain ⟨a, s, e, q⟩ := h
  exact ⟨a, s, by unfold dComp; rw [e1]; dsimp only; rw [if_pos hl, e], q⟩
end
end LW

/-! LwZe: [e for .. in .. if .. for .. in .. if ..]. -/
namespace LW
open PySem L2 PyProof.Rows
def comp2M (chk : Sto → Bool) (asg : D → Env → Option Env) (cond : SB) (fi2 : Fx Src) (asg2 : D → Env → Option Env) (cond2 : SB) (elt : SE) (vs2 : List Nat) (env0 : Env) : List D → Sto → Option (List D × Sto)
  | [], st => if chk st = true then some ([], st) else none
  | d :: ds, st => if chk st = true then (match asg d env0 with
    | none => none
    | some e1 => match cond e1 st with
      | none => none
      | some (false, s1) => comp2M chk asg cond fi2 asg2 cond2 elt vs2 env0 ds s1
      | some (true, s1) => match fi2 e1 s1 with
        | none => none
        | some (src, s2) => match compM src.2 asg2 cond2 elt (wipeE e1 vs2) src.1 s2 with
          | none => none
          | some (ys, s3) => match comp2M chk asg cond fi2 asg2 cond2 elt vs2 env0 ds s3 with
            | none => none
            | some (zs, s4) => some (ys ++ zs, s4)) else none
def lComp2 (fi : Fx Src) (asg : D → Env → Option Env) (cond : SB) (fi2 : Fx Src) (asg2 : D → Env → Option Env) (cond2 : SB) (elt : SE) (vs vs2 : List Nat) : Fx (List D) := fun env st => match fi env st with
  | none => none
  | some (xs, s1) => match comp2M xs.2 asg cond fi2 asg2 cond2 elt vs2 (wipeE env vs) xs.1 s1 with
    | none => none
    | some (ys, s2) => if ys.length ≤ 1000000 then some (ys, s2) else none
section
variable {mg : Glob} {fi fi2 : Fx Src} {asg asg2 : D → Env → Option Env} {cond cond2 : SB} {elt : SE} {g g2 : TG} {is is2 vs vs2 : List Nat}
variable {X : Cx} {eltE tg iter tg1 iter1 : Expr} {ifs ifs1 : List Expr} {scope : Scope} {own : List (Str × Nat)} {pos : Pos}
end
end LW

/-! LwEa: exception classes of the form: def __init__(self, value=None): super().__init__(); self.value = value (turned from a worked proof with an own error). -/
namespace PySem
namespace LeafX
open PySem.W PySem.Calls PyProof.Rows PySem.HandSPX
/-! ### the text of __init__ -/
/-- what the written part says of the class at C and of its __init__ at fI -/
structure LeafTxt (P : Program) (K : Frag) (C fI : Addr) (qual : Str) : Prop where
  cls : ∃ nm q N bs bm sn sub ab col dd k0 k1 k2 k3 k5, K.lookup C = some (excClassObj nm q C N bs bm true sn sub ab col dd k0 k1 k2 k3 k5 "ValueError.__new__") ∧ refsVE bm = true ∧ alongIn K "__init__" bm = some (some (.builtin "ValueError.__init__"))
  sa : findIn K (.ref C) "__setattr__" = some (some (.builtin "object.__setattr__"))
  noN : findIn K (.ref C) "value" = some none
  iC : findIn K (.ref C) "__init__" = some (some (.ref fI))
  tC : typeIn K (.ref fI) = some (.type "function")
  exC : subIn K (.ref C) (.type "BaseException") = some true
  mro : mroIn K C (.ref C) = some true
  vaC : subIn K (.ref C) (.type "ValueError") = some true
  tyC : typeIn K (.ref C) = some (.type "type")
  opq : nsIn K cStatics "thirdparty.any" = some none
  fn : ∃ (oc T : Value) (od : Option Addr) (kV doc pm ct : Value) (an : Option Addr) (osl : Array (Option Value)) (p : Ps) (cc cda : Addr) (oT : Addr) (ot : Obj) (it : Value) (nt : Nat) (vs : Array Value) (file : Str) (tf : Tok)
      (ccl cl : Value) (cdd cld : Option Addr) (ccs csl : Array (Option Value)),
    K.lookup fI = some ⟨oc, od, .func (fnX "__init__" qual (iA p) (iB p) iS [("__class__", cc)] (.ref oT) kV doc pm an (.ref cda) ct), osl⟩ ∧ codeIn K (.ref cda) qual = true ∧
    K.lookup oT = some ot ∧ ot.data = .seq #[it] nt ∧ it = .none ∧
    K.lookup cda = some ⟨ccl, cdd, .fields vs, ccs⟩ ∧ vs[2]? = some (.str file tf) ∧ ((P.main.file : Str) == file) = true ∧
    K.lookup cc = some ⟨cl, cld, .cell (some (.ref C)), csl⟩ ∧ (p.a3.endLine == p.a4.line) = true
  top : (P.main.scope.names.lookup ("super" : Str)).isSome = false
theorem ev_super (env : Env) (p1 p2 p3 p4 : Pos) (h : (p3.endLine == p4.line) = true) : eval (.Call (.Attribute (.Call (.Name "super" p1) [] [] p2) "__init__" p3) [] [] p4) env = (do
      let ov ← attributeBase (.Call (.Name "super" p1) [] [] p2) "__init__" env (eval (.Call (.Name "super" p1) [] [] p2) env)
      standAt p3.atName
      let (f, first) ← holding [ov] (getMethod ov "__init__" (do return (← importBound (.Call (.Name "super" p1) [] [] p2) env).getD true))
      callWith p4 f first (backTo p4 (starEach [] env)) []) := by
  have e : ∀ o, methodCallPos true o env p3 p4 = pure p4 := fun o => by
    unfold methodCallPos
    rw [h] <;> rfl
  have m : ∀ ov, methodCall (.Call (.Name "super" p1) [] [] p2) "__init__" p3 p4 env ov 0 (backTo p4 (starEach [] env)) [] = (do
      let (f, first) ← holding [ov] (getMethod ov "__init__" (do return (← importBound (.Call (.Name "super" p1) [] [] p2) env).getD true))
      callWith p4 f first (backTo p4 (starEach [] env)) []) := fun ov => by
    unfold methodCall
    show (do
      let (f, first) ← holding [ov] (getMethod ov "__init__" (do return (← importBound (.Call (.Name "super" p1) [] [] p2) env).getD true))
      let callPos ← methodCallPos true _ env p3 p4
      callWith callPos f first (backTo p4 (starEach [] env)) []) = _
    simp only [e, pure_bind]
  show (do
      let ov ← attributeBase (.Call (.Name "super" p1) [] [] p2) "__init__" env (eval (.Call (.Name "super" p1) [] [] p2) env)
      standAt p3.atName
      methodCall (.Call (.Name "super" p1) [] [] p2) "__init__" p3 p4 env ov 0 (backTo p4 (starEach [] env)) []) = _
  simp only [m]
theorem ldC {M : Model} {s : Shared} {env : Env} {m : Str → Option Value} {x : Str} {pos : Pos} {v : Value} {Q : Value → Shared → Prop} {A : Around} {E : Value → Shared → Prop} (hn : s.heap.Ns env.locals m) (hv : m x = some v) (h : Q v s)
    (hk : env.scope.kind = .function) (hl : env.kindOf x = some .local) (hd : (x == ("__debug__" : Str)) = false := by decide) :
    wpAny M A (eval (.Name x pos) env) Q E s := wpAny_Name (wpAny_loadName_local hk hl hn hv h) hd
/-- what __init__ leaves of a fresh exception at x -/
structure InitEnd (h h' : Heap) (x C dx t1 : Addr) (v : Value) : Prop where
  keep : ∀ b o, b ≠ x → h.get? b = some o → h'.get? b = some o
  obj : h'.get? x = some { cls := .ref C, dict := some dx, data := .fields #[.ref t1, .none, .none, .none, .bool false, .none] }
  dbig : h.objs.size ≤ dx
  dne : dx ≠ x
  ns : h'.Ns1 dx (fun y => if y = "value" then some v else none)
section
variable {prog : Program} {w : World} {A : Around} {E : Value → Shared → Prop} {R : Result → Shared → Prop} {s : Shared} {K : Frag} {mg mb : Str → Option Value} {C fI : Addr} {qual : Str}
/-- a made one -/
structure OwnMade (h h' : Heap) (e C d : Addr) (v : Value) : Prop where
  keep : ∀ b o, h.get? b = some o → h'.get? b = some o
  new : h.objs.size ≤ e
  obj : ∃ oe vs, h'.get? e = some oe ∧ oe.cls = .ref C ∧ oe.dict = some d ∧ oe.data = .fields vs ∧ vs[1]? = some .none
  dbig : h.objs.size ≤ d
  dne : d ≠ e
  ns : h'.Ns1 d (fun y => if y = "value" then some v else none)
end
end LeafX
end PySem

/-! LwEb: several except clauses, some with a name; an own error is raised. (The first proof is turned from the rules for clauses without a name and for one clause with a name.) -/
namespace L2
open PySem PySem.Spec PyProof.Rows
inductive HdsN (X : Cx) : List ExceptHandler → List (Value × Option Nat × (Addr → Value → Option Addr → TS)) → Prop
  | nil : HdsN X [] []
  | cons {x : Str} {c : Value} {ts : Addr → Value → Option Addr → TS} {b₀ : Stmt} {suite : List Stmt} {np pos' : Pos} {hds : List ExceptHandler} {l : List (Value × Option Nat × (Addr → Value → Option Addr → TS))} (hc : Names X x c)
      (hsu : ∀ (a : Addr) (oe : Obj) (cls : Value) (d : Option Addr) (pn : List (Addr × Obj)), Zc cls d oe → (∃ vs, oe.data = .fields vs) → PSs (X.suite a ((a, oe) :: pn)) (b₀ :: suite) (ts a cls d)) (r : HdsN X hds l) :
      HdsN X (.ExceptHandler (some (.Name x np)) none (b₀ :: suite) pos' :: hds) ((c, none, ts) :: l)
  | consAs {x n : Str} {i : Nat} {c : Value} {ts : Addr → Value → Option Addr → TS} {b₀ : Stmt} {suite : List Stmt} {np pos' : Pos} {hds : List ExceptHandler} {l : List (Value × Option Nat × (Addr → Value → Option Addr → TS))} (hi : X.N[i]? = some n) (hln : X.env.kindOf n = some .local) (hc : Names X x c)
      (hsu : ∀ (a : Addr) (oe : Obj) (cls : Value) (d : Option Addr) (pn : List (Addr × Obj)), Zc cls d oe → (∃ vs, oe.data = .fields vs) → PSs (X.suite a ((a, oe) :: pn)) (b₀ :: suite) (ts a cls d)) (r : HdsN X hds l) :
      HdsN X (.ExceptHandler (some (.Name x np)) (some n) (b₀ :: suite) pos' :: hds) ((c, some i, ts) :: l)
section
variable {X : Cx} {body : List Stmt} {h₀ : ExceptHandler} {hds : List ExceptHandler} {l : List (Value × Option Nat × (Addr → Value → Option Addr → TS))} {pos : Pos} {tb : WX → TS} {Wout : WX}
end
theorem relO_leaf {v : V} {v' : Value} (r : RelV v v') (f : Str) : RelO (List.lookup f [(("value" : Str), v)]) (if f = "value" then some v' else none) := by
  by_cases hw : f = "value"
  · subst hw
    rw [if_pos rfl]
    have q : List.lookup ("value" : Str) [(("value" : Str), v)] = some v := by simp [List.lookup]
    rw [q]
    exact r
  · rw [if_neg hw]
    have qw : (f == ("value" : Str)) = false := by simpa using hw
    have q2 : List.lookup f [(("value" : Str), v)] = none := by simp [List.lookup, qw]
    rw [q2]
    trivial
section
variable {X : Cx} {C fI : Addr} {qual x : Str}
end
end L2

/-! LwEc: statements and expressions that may raise, by plain functions; defs that may raise. -/
namespace LW
open PySem L2 PyProof.Rows

/-- an exception of the class cn whose value is d -/
def XcL (mg : Glob) (N : Prot) (c : List Addr) (H : Hp) (cls : Value) (dd : Option Addr) (cn : Str) (d : D) : Prop :=
  ∃ C da v, cls = .ref C ∧ dd = some da ∧ mg.mg cn = some (.ref C) ∧ H da = some (.xd [(("value" : Str), v)]) ∧ ¬ N da ∧ Rep mg N c H v d
/-- what stands for the value of an exception of a class without an own __init__ -/
abbrev bareD : D := .ty "bare"
def isBare : D → Bool
  | .ty _ => true
  | _ => false
/-- an exception of the class cn: with a value, or of a class without an own __init__ -/
def XcP (mg : Glob) (N : Prot) (c : List Addr) (H : Hp) (cls : Value) (dd : Option Addr) (cn : Str) (d : D) : Prop :=
  XcL mg N c H cls dd cn d ∨ ∃ C, cls = .ref C ∧ dd = none ∧ mg.mg cn = some (.ref C) ∧ d = bareD
theorem XcP.at {mg : Glob} {N : Prot} {c : List Addr} {H : Hp} {cls : Value} {dd : Option Addr} {cn : Str} {d : D} (z : XcP mg N c H cls dd cn d) : ∃ C, cls = .ref C ∧ mg.mg cn = some (.ref C) := by
  rcases z with ⟨C, da, v, e1, e2, e3, e4, e5, e6⟩ | ⟨C, e1, e2, e3, e4⟩
  · exact ⟨C, e1, e3⟩
  · exact ⟨C, e1, e3⟩
inductive OutX where
  | o (o : Out) | ex (cn : Str) (d : D) (env : Env)
inductive RX where
  | ok (d : D) | ex (cn : Str) (d : D)
abbrev SX := Env → Sto → Option (OutX × Sto)
abbrev EX := Env → Sto → Option (RX × Sto)
abbrev FX := List D → Sto → Option (RX × Sto)
def PostX (mg : Glob) (W : WX) (E : En) (N : Prot) (c : List Addr) (H : Hp) (De : Ends) (o : OutX) (st' : Sto) : Prop := match o with
  | .o o => PostS mg E N c H De o st'
  | .ex cn d env' => ∀ N' c' σ' H' cls dd, Sx N c H N' c' H' → Rel mg E N' c' env' st' σ' H' → XcP mg N' c' H' cls dd cn d → W cls dd σ' H'
def PostE (mg : Glob) (W : WX) (σ : L2.St) (N : Prot) (c : List Addr) (H : Hp) (Q : VK) (r : RX) (st' : Sto) : Prop := match r with
  | .ok d => ∀ v N' c' H', Ex N c H N' c' H' → Wd mg N' c' H' st' → Rep mg N' c' H' v d → Q v H'
  | .ex cn d => ∀ N' c' H' cls dd, Ex N c H N' c' H' → Wd mg N' c' H' st' → XcP mg N' c' H' cls dd cn d → W cls dd σ H'
section
variable {mg : Glob} {W : WX} {E : En} {N N' : Prot} {c c' : List Addr} {H H' : Hp} {De : Ends} {o : OutX} {st st' : Sto} {env env' : Env} {σ : L2.St}
theorem PostX.from (x : Sx N c H N' c' H') (p : PostX mg W E N c H De o st') : PostX mg W E N' c' H' De o st' := by
  cases o with
  | o o => exact PostS.from x p
  | ex cn d e => exact fun N2 c2 σ2 H2 cls dd x2 R2 z => p N2 c2 σ2 H2 cls dd (x.trans x2) R2 z
end
def xL (f : SS) : SX := fun env st => (f env st).map fun p => (.o p.1, p.2)
def xNil : SX := fun env st => some (.o (.nx env), st)
def xSeq (f g : SX) : SX := fun env st => match f env st with
  | some (.o (.nx e), s1) => g e s1
  | r => r
def xIf (t : SB) (f g : SX) : SX := fun env st => match t env st with
  | some (true, s1) => f env s1
  | some (false, s1) => g env s1
  | none => none
def xRaise (cn : Str) (f : SE) : SX := fun env st => match f env st with
  | some (d, s1) => some (.ex cn d env, s1)
  | none => none
def xDrop (f : EX) : SX := fun env st => match f env st with
  | some (.ok _, s1) => some (.o (.nx env), s1)
  | some (.ex cn d, s1) => some (.ex cn d env, s1)
  | none => none
def xSet (i : Nat) (f : EX) : SX := fun env st => match f env st with
  | some (.ok d, s1) => some (.o (.nx (env.set i (.val d))), s1)
  | some (.ex cn d, s1) => some (.ex cn d env, s1)
  | none => none
def xRet (f : EX) : SX := fun env st => match f env st with
  | some (.ok d, s1) => some (.o (.rt d), s1)
  | some (.ex cn d, s1) => some (.ex cn d env, s1)
  | none => none
section
variable {mg : Glob} {X : Cx} {W : WX} {s : Stmt} {rest : List Stmt} {e : Expr} {pos : Pos} {f g : SX} {fe : EX} {fs : SS} {t : SB}
end
end LW

/-! LwEd: raise; calls of defs that may raise; such defs. -/
namespace LW
open PySem L2 PyProof.Rows
section
variable {mg : Glob} {X : Cx} {W : WX} {s : Stmt} {rest : List Stmt} {e : Expr} {es : List Expr} {pos : Pos} {f g : SX} {fe : EX} {fv : SE} {fs : SS} {t : SB}
end
/-! ### defs that may raise -/
def fnX (n m : Nat) (body : SX) : FX := fun ds st => if ds.length = n then (match body (env0 m ds) st with
  | some (.o (.rt d), s1) => some (.ok d, s1)
  | some (.o (.nx _), s1) => some (.ok .non, s1)
  | some (.ex cn d _, s1) => some (.ex cn d, s1)
  | _ => none) else none
def eCallX (g : FX) (dd : List D) (f : SA) : EX := fun env st => match f env st with
  | none => none
  | some (ds, s1) => g (ds ++ dd) s1
section
variable {P : Program} {w : World} {K : PySem.W.Frag} {mg : Str → Option Value} {base : Heap}
theorem XcP.fin {m : Glob} {E : En} {N : Prot} {c : List Addr} {env : Env} {st : Sto} {σ : L2.St} {H : Hp} {cls : Value} {dd : Option Addr} {cn : Str} {d : D} (R : Rel m E N c env st σ H) (z : XcP m N c H cls dd cn d) : XcP m (fun a => E.N0 a ∨ a ∈ c) c H cls dd cn d := by
  have less : ∀ a, (E.N0 a ∨ a ∈ c) → N a := fun a z => z.elim (R.n0 a) (R.wd.cn a)
  rcases z with ⟨C, da, v, e1, e2, e3, e4, e5, e6⟩ | z
  · exact .inl ⟨C, da, v, e1, e2, e3, e4, fun q => e5 (less _ q), e6.tr (Tr.less less)⟩
  · exact .inr z
end
section
variable {mg : Glob} {X : Cx} {W : WX} {k : Nat} {f C : Addr} {fd : FuncData} {ps : List Str} {g : FX} {n : Nat} {dvs : List V} {ds : List Value} {dd : List D} {x m : Str} {p pos apos : Pos} {e o : Expr} {es : List Expr} {fs : SA}
end
end LW

/-! LwEe: try: body / except C1 as e: .. / except C2: .. -/
namespace LW
open PySem L2 PyProof.Rows
/-- a clause: its class, the slot of its name, its suite by the error's value -/
abbrev Cl := Str × Option Nat × (D → SS)
def unO (i : Nat) : Out → Out
  | .nx e => .nx (e.set i .un)
  | .bk e => .bk (e.set i .un)
  | .ct e => .ct (e.set i .un)
  | .rt d => .rt d
def hRun (sub : Str → Str → Option Bool) (cn : Str) (d : D) : List Cl → SS
  | [] => fun _ _ => none
  | (cn', none, fh) :: r => fun env st => match sub cn cn' with
    | some true => fh .non env st
    | some false => hRun sub cn d r env st
    | none => none
  | (cn', some i, fh) :: r => fun env st => match sub cn cn' with
    | some true => if cn = cn' ∧ i < env.length ∧ isBare d = false then (match fh d (env.set i .un) st with
      | some (o, s1) => some (unO i o, s1)
      | none => none) else none
    | some false => hRun sub cn d r env st
    | none => none
def sTry (sub : Str → Str → Option Bool) (fb : SX) (l : List Cl) : SS := fun env st => match fb env st with
  | some (.o o, s1) => some (o, s1)
  | some (.ex cn d e1, s1) => hRun sub cn d l e1 s1
  | none => none
section
variable {mg : Glob} {X : Cx} {i : Nat} {cn : Str} {a : Addr} {oe : Obj} {cls : Value} {dd : Option Addr} {pn : List (Addr × Obj)} {e : Expr} {pos : Pos} {f : D → SE}
end
/-! ### the clauses -/
section
variable {mg : Glob} {X : Cx} {sub : Str → Str → Option Bool}
end
end LW

/-! LwEf: short words: defs that may raise, exception classes with their facts. -/
namespace LW
open PySem L2 PyProof.Rows
/-- the exception class cn -/
def LF (P : Program) (K : PySem.W.Frag) (mg : Str → Option Value) (cn : Str) : Prop := ∃ C fI qual, mg cn = some (.ref C) ∧ PySem.W.keepIn K (.ref C) = true ∧ PySem.LeafX.LeafTxt P K C fI qual ∧ XfC K C ∧ PySem.W.findIn K (.ref C) "value" = some none
section
variable {P : Program} {K : PySem.W.Frag} {mg : Str → Option Value} {h : Heap} {cn : Str} {C L fI N N' cc cda oT : Addr} {nm q nm' q' qual file : Str} {bs bm sub bs' sub' : List Value} {sn sn' : List Str} {hd' ab' : Bool} {col' : Option Bool} {dd' : Option Addr} {j0 j1 j2 j3 j5 : Option Value} {nw' : String} {ab : Bool} {col : Option Bool} {dd od an cdd cld odT : Option Addr} {k0 k1 k2 k3 k5 : Option Value}
  {oc kV doc pm ct ccl cl ocT : Value} {osl ccs csl oslT : Array (Option Value)} {vs : Array Value} {tf : Tok} {nt : Nat} {p1 p2 p3 a1 a2 a3 a4 b1 b2 b3 b4 : Pos}
end
section
variable (P : Program) (w : World) (K : PySem.W.Frag) (mg : Str → Option Value) (base : Heap)
end
section
variable {P : Program} {w : World} {K : PySem.W.Frag} {mg : Str → Option Value} {base : Heap} {k : Nat} {x : Str} {st : Stmt} {nm ps : List Str} {body : SX}
end
section
variable {mg : Glob} {X : Cx} {W : WX} {k n : Nat} {ps : List Str} {g : FX} {dvs : List V} {dd : List D} {x : Str} {p pos : Pos} {e : Expr} {es : List Expr} {fs : SA}
end
/-! ### which class lies below which -/
section
variable {K : PySem.W.Frag} {mg : Str → Option Value} {h : Heap} {cn cn' : Str} {b : Bool} {C C' : Addr} {tbl : List (Str × Str × Bool)}
end
section
variable {mg : Glob} {X : Cx} {cn n : Str} {i : Nat} {C : Addr} {fh : D → SS} {b₀ : Stmt} {suite : List Stmt} {np pos' : Pos} {hds : List ExceptHandler} {l : List (Addr × Cl)}
end
end LW

/-! LwEg: a thing of any kind in a list of tuples of ints; len(set(tuples of ints)). -/
namespace PySem.SeqAt
open PySem
section
end
end PySem.SeqAt
namespace PySem.SeqAt
open PySem
section
variable {A : Around} {s : Shared}
end
end PySem.SeqAt
namespace L2
open PySem PySem.Spec PyProof.Rows
section
variable {X : Cx} {pins : List (Addr × Obj)} {σ : St} {H : Hp} {s : Shared}
end
end L2
namespace LW
open PySem L2 PyProof.Rows
section
variable {mg : Glob} {N : Prot} {c : List Addr} {H : Hp} {st : Sto}
end
end LW
namespace L2
open PySem PySem.Spec PyProof.Rows
end L2
namespace LW
open PySem L2 PyProof.Rows
section
variable {mg : Glob} {N : Prot} {c : List Addr} {H : Hp} {st : Sto}
end
section
variable {mg : Glob} {X : Cx} {a b : Expr} {pos p1 p2 p3 : Pos} {fa fb : SE}
end
end LW

/-! LwEh: != of lists of equal things, tuples and dicts among them (turned from LwYd and from the rule for tuples). -/
namespace PySem.SeqAt
open PySem
open MeetsSeq MeetsSeq2 MeetsSeq3 SeqRoads2
section
variable {prog : Program} {w : World}
end
end PySem.SeqAt
namespace LW
open PySem L2 PyProof.Rows
section
variable {X : Cx} {pins : List (Addr × Obj)} {σ : L2.St} {H : Hp} {s : Shared}
end
/-! ### equal data -/
section
variable {mg : Glob} {N : Prot} {c : List Addr} {H : Hp} {st : Sto}
end
section
variable {mg : Glob} {X : Cx} {a b : Expr} {pos : Pos} {fa fb : SE}
end
end LW

/-! LwEi: xs != [] , the things in xs of any kind. -/
namespace L2
open PySem PySem.Spec PyProof.Rows
end L2
namespace LW
open PySem L2 PyProof.Rows
section
variable {mg : Glob} {X : Cx} {a b : Expr} {pos : Pos} {fa fb : SE}
end
end LW
namespace L2
open PySem PySem.Spec PyProof.Rows
end L2
namespace LW
open PySem L2 PyProof.Rows
section
variable {mg : Glob} {X : Cx} {a b : Expr} {pos : Pos} {fa fb : SE}
end
end LW

/-! LwEj: how mirrors that may raise run, told backwards. -/
namespace LW
open PySem L2
section
variable {env : Env} {st : Sto} {f g : SX} {fs : SS} {fe : EX} {fv : SE} {t : SB} {Q : OutX → Sto → Prop} {QE : RX → Sto → Prop} {QS : Out → Sto → Prop} {cn : Str} {i : Nat}
theorem z_xSeq (h : Ok (f env st) fun o s => match o with
    | .o (.nx e) => Ok (g e s) Q
    | o => Q o s) : Ok (xSeq f g env st) Q := by
  obtain ⟨o, s, e, q⟩ := h
  unfold xSeq
  rw [e]
  cases o with
  | o o => cases o with
    | nx e1 => exact q
    | rt d => exact ⟨_, s, rfl, q⟩
    | bk e1 => exact ⟨_, s, rfl, q⟩
    | ct e1 => exact ⟨_, s, rfl, q⟩
  | ex cn d e1 => exact ⟨_, s, rfl, q⟩
theorem z_xIf (h : Ok (t env st) fun b s => if b = true then Ok (f env s) Q else Ok (g env s) Q) : Ok (xIf t f g env st) Q := by
  obtain ⟨b, s, e, q⟩ := h
  unfold xIf
  rw [e]
  cases b with
  | true => exact q
  | false => exact q
theorem z_xRaise (h : Ok (fv env st) fun d s => Q (.ex cn d env) s) : Ok (xRaise cn fv env st) Q := by
  obtain ⟨d, s, e, q⟩ := h
  exact ⟨_, s, by unfold xRaise; rw [e], q⟩
theorem z_xL (h : Ok (fs env st) fun o s => Q (.o o) s) : Ok (xL fs env st) Q := by
  obtain ⟨o, s, e, q⟩ := h
  exact ⟨_, s, by unfold xL; rw [e]; rfl, q⟩
theorem z_xNil (q : Q (.o (.nx env)) st) : Ok (xNil env st) Q := ⟨_, st, rfl, q⟩
theorem z_xDrop (h : Ok (fe env st) fun r s => match r with
    | .ok _ => Q (.o (.nx env)) s
    | .ex cn d => Q (.ex cn d env) s) : Ok (xDrop fe env st) Q := by
  obtain ⟨r, s, e, q⟩ := h
  cases r with
  | ok d => exact ⟨_, s, by unfold xDrop; rw [e], q⟩
  | ex cn d => exact ⟨_, s, by unfold xDrop; rw [e], q⟩
theorem z_xRet (h : Ok (fe env st) fun r s => match r with
    | .ok d => Q (.o (.rt d)) s
    | .ex cn d => Q (.ex cn d env) s) : Ok (xRet fe env st) Q := by
  obtain ⟨r, s, e, q⟩ := h
  cases r with
  | ok d => exact ⟨_, s, by unfold xRet; rw [e], q⟩
  | ex cn d => exact ⟨_, s, by unfold xRet; rw [e], q⟩
theorem z_eCallX {gx : FX} {dd : List D} {fa : SA} (h : Ok (fa env st) fun ds s => Ok (gx (ds ++ dd) s) QE) : Ok (eCallX gx dd fa env st) QE := by
  obtain ⟨ds, s, e, q⟩ := h
  unfold eCallX
  rw [e]
  exact q
theorem z_sTry {sub : Str → Str → Option Bool} {l : List Cl} (h : Ok (f env st) fun o s => match o with
    | .o o => QS o s
    | .ex cn d e1 => Ok (hRun sub cn d l e1 s) QS) : Ok (sTry sub f l env st) QS := by
  obtain ⟨o, s, e, q⟩ := h
  unfold sTry
  rw [e]
  cases o with
  | o o => exact ⟨_, s, rfl, q⟩
  | ex cn d e1 => exact q
end
end LW

/-! LwEk: repr of texts and tuples. -/
namespace LW
open PySem L2 Builtin.Str
def cOk (l : List Nat) : Prop := ∀ c ∈ l, c < 0x110000
theorem strOk_iff {x : Str} : PyData.strOk x = true ↔ cOk x.cps.toList := by
  unfold PyData.strOk cOk
  rw [← Array.all_toList, List.all_eq_true]
  exact ⟨fun h c hc => of_decide_eq_true (h c hc), fun h c hc => decide_eq_true (h c hc)⟩
theorem char_lt (c : Char) : c.toNat < 0x110000 := by
  have h := c.valid
  rcases h with h | h
  · exact Nat.lt_trans h (by decide)
  · exact h.2
theorem cOk_hex (w c : Nat) : cOk (let d := (Nat.toDigits 16 c).map Char.toNat; List.replicate (w - d.length) 48 ++ d) := by
  intro n hn
  rcases List.mem_append.mp hn with hn | hn
  · rw [(List.mem_replicate.mp hn).2]; decide
  · obtain ⟨c, _, rfl⟩ := List.mem_map.mp hn
    exact char_lt c
theorem cOk_cons {c : Nat} {l : List Nat} (h : c < 0x110000) (t : cOk l) : cOk (c :: l) := fun n hn => by
  rcases List.mem_cons.mp hn with rfl | hn
  · exact h
  · exact t n hn
theorem cOk_nil : cOk [] := fun n hn => by cases hn
theorem cOk_app {l m : List Nat} (h : cOk l) (t : cOk m) : cOk (l ++ m) := fun n hn => (List.mem_append.mp hn).elim (h n) (t n)
theorem reprChar_ok {q c : Nat} (h : c < 0x110000) : cOk (Builtin.Str.reprChar q c) := by
  unfold Builtin.Str.reprChar
  dsimp only
  repeat' split
  · exact cOk_cons (by decide) (cOk_cons h cOk_nil)
  · exact cOk_cons (by decide) (cOk_cons (by decide) cOk_nil)
  · exact cOk_cons (by decide) (cOk_cons (by decide) cOk_nil)
  · exact cOk_cons (by decide) (cOk_cons (by decide) cOk_nil)
  · exact cOk_cons h cOk_nil
  · exact cOk_app (cOk_cons (by decide) (cOk_cons (by decide) cOk_nil)) (cOk_hex _ _)
  · exact cOk_app (cOk_cons (by decide) (cOk_cons (by decide) cOk_nil)) (cOk_hex _ _)
  · exact cOk_app (cOk_cons (by decide) (cOk_cons (by decide) cOk_nil)) (cOk_hex _ _)
theorem foldl_repr_ok (q : Nat) : ∀ (l : List Nat) (acc : Array Nat), cOk l → cOk acc.toList → cOk (l.foldl (fun out c => out ++ (Builtin.Str.reprChar q c).toArray) acc).toList
  | [], acc, _, h => h
  | c :: r, acc, h, ha => foldl_repr_ok q r _ (fun d hd => h d (List.mem_cons_of_mem _ hd)) (by
      rw [Array.toList_append]
      exact cOk_app ha (reprChar_ok (h c (List.mem_cons_self ..))))
theorem quote_lt (x : Str) : reprQuote x < 0x110000 := by
  unfold reprQuote
  split <;> decide
theorem strOk_repr {x : Str} (h : PyData.strOk x = true) : PyData.strOk (reprText x) = true := by
  rw [strOk_iff] at h ⊢
  unfold reprText
  dsimp only
  rw [Array.toList_push, ← Array.foldl_toList]
  exact cOk_app (foldl_repr_ok _ _ _ h (cOk_cons (quote_lt x) cOk_nil)) (cOk_cons (quote_lt x) cOk_nil)
theorem sh_str {x : Str} (h : PyData.strOk x = true) : Sh (.str x) (10 * x.length + 2) where
  sh := by unfold PyData.showable; rfl
  ln := by
    unfold PyData.shown
    exact StrLaws.reprText_len x fun c hc => Nat.lt_of_lt_of_le (strOk_iff.mp h c hc) (by decide)
  ok := by
    unfold PyData.shown
    exact strOk_repr h
theorem strOk_join {sep : Str} (hs : PyData.strOk sep = true) : ∀ (ts : List Str), (∀ t ∈ ts, PyData.strOk t = true) → PyData.strOk (Str.join sep ts) = true
  | [], _ => strOk_of ""
  | [t], h => h t (by simp)
  | t :: u :: r, h => by
    show PyData.strOk (t ++ sep ++ Str.join sep (u :: r)) = true
    exact strOk_app (strOk_app (h t (by simp)) hs) (strOk_join hs (u :: r) fun z hz => h z (by simp [List.mem_cons.mp hz]))
theorem sh_tup {n : Nat} {xs : List PyData} (h : ∀ x ∈ xs, Sh x n) : Sh (.tuple xs) ((n + 2) * xs.length + 3) := by
  obtain ⟨h1, h2, h3, h4⟩ := sh_all xs h
  refine ⟨by unfold PyData.showable; exact h1, ?_, ?_⟩
  · unfold PyData.shown
    have := tupleText_len_le (PyData.shownAll xs)
    rw [h3] at this
    rw [Nat.add_mul]
    omega
  · unfold PyData.shown tupleText
    refine strOk_app (strOk_app (strOk_of _) (strOk_join (strOk_of _) _ h4)) ?_
    split <;> exact strOk_of _
end LW

/-! LwFa: a new list as a cell, anywhere in an expression; loops over a cell of any things. -/
namespace LW
open PySem L2 PyProof.Rows
def eCel (f : Fx (List D)) : SE := fun env st => match f env st with
  | some (xs, s1) => some (.cell s1.length, s1 ++ [xs])
  | none => none
section
variable {mg : Glob} {N N' : Prot} {c c' : List Addr} {H H' : Hp} {st st' : Sto} {v : V} {xs : List D}
theorem Wd.cellN {p : Addr} {vs : List V} (W : Wd mg N c H st) (np : N p) (nc : p ∉ c) (hp : H p = some (.lst vs)) (r : RepL mg N c H vs xs) : Wd mg N (c ++ [p]) H (st ++ [xs]) := by
  have hl := W.len
  have tr : Tr N c H N (c ++ [p]) H := ⟨fun _ _ e _ => e, fun a z => .inl z, fun k a e => by rw [List.getElem?_append_left (List.getElem?_eq_some_iff.mp e).1]; exact e, fun _ _ e => e⟩
  refine ⟨by rw [List.length_append, List.length_append, hl]; rfl, fun k a ys h1 h2 => ?_, fun a z => ?_, ?_, W.trk⟩
  · by_cases hk : k < c.length
    · rw [List.getElem?_append_left hk] at h1
      rw [List.getElem?_append_left (by omega)] at h2
      obtain ⟨us, ha, rr⟩ := W.sto k a ys h1 h2
      exact ⟨us, ha, rr.tr tr⟩
    · rw [List.getElem?_append_right (by omega)] at h1 h2
      by_cases e : k - c.length = 0
      · rw [e] at h1
        rw [← hl, e] at h2
        cases h1
        cases h2
        exact ⟨_, hp, .l (r.tr tr)⟩
      · rw [List.getElem?_eq_none (by simp; omega)] at h1
        cases h1
  · rcases List.mem_append.mp z with z | z
    · exact W.cn a z
    · have e : a = p := by simpa using z
      rw [e]; exact np
  · exact List.nodup_append.mpr ⟨W.nd, by simp, fun a ha b hb => by
      have e : b = p := by simpa using hb
      rw [e]
      exact fun z => nc (z ▸ ha)⟩
theorem RN.cel (W : Wd mg N c H st) (x : Ex N c H N' c' H') (W' : Wd mg N' c' H' st') (h : RN mg N c H N' c' H' v xs) : ∃ c'', Ex N c H N' c'' H' ∧ Wd mg N' c'' H' (st' ++ [xs]) ∧ Rep mg N' c'' H' v (.cell st'.length) := by
  obtain ⟨p, vs, rfl, hn, np, nc, hp, r⟩ := h
  refine ⟨c' ++ [p], ⟨x.keep, x.new, x.mono, fun k a e => ?_, fun a z => ?_⟩, W'.cellN np nc hp r, .cell ?_⟩
  · have e' := x.pre k a e
    rw [List.getElem?_append_left (List.getElem?_eq_some_iff.mp e').1]
    exact e'
  · rcases List.mem_append.mp z with z | z
    · exact x.newc a z
    · have e : a = p := by simpa using z
      rw [e]; exact .inr hn
  · rw [← W'.len, List.getElem?_append_right (Nat.le_refl _)]
    simp
end
section
variable {mg : Glob} {X : Cx} {e : Expr} {f : Fx (List D)}
theorem d_cell (h : PE X e (tL mg f)) : PE X e (tE mg (eCel f)) := pe_weak h fun σ H Q ⟨E, N, c, env, st, d, st', R, q, k⟩ => by
  unfold eCel at q
  split at q
  · rename_i xs s1 q1
    cases q
    refine ⟨E, N, c, env, st, xs, s1, R, q1, fun v N' c' H' x W r => ?_⟩
    obtain ⟨c'', x2, W2, r2⟩ := r.cel R.wd x W
    exact k v N' c'' H' x2 W2 r2
  · cases q
end
/-! ### loops over a cell of any things -/
section
variable {mg : Glob} {N : Prot} {c : List Addr} {H : Hp} {K : PySem.W.Frag}
end
section
variable {mg : Glob} {X : Cx} {tg e : Expr} {fe : SE}
end
section
variable {env : Env} {st : Sto} {fe : SE} {f : Fx (List D)} {Q : D → Sto → Prop} {QI : Src → Sto → Prop}
theorem z_cel (h : Ok (f env st) fun xs s => Q (.cell s.length) (s ++ [xs])) : Ok (eCel f env st) Q := by
  obtain ⟨xs, s, e, q⟩ := h
  exact ⟨_, _, by unfold eCel; rw [e], q⟩
end
end LW

/-! LwFb: classes whose __init__ may raise. -/
namespace LW
open PySem L2 PyProof.Rows
inductive RIX where
  | ok (ns : List Str) (vs : List D) | ex (cn : Str) (d : D)
abbrev FIX := List D → Sto → Option (RIX × Sto)
section
variable {P : Program} {w : World} {K : PySem.W.Frag} {mg : Str → Option Value} {base : Heap}
end
section
variable {mg : Glob} {X : Cx} {W : WX} {k : Nat} {f C : Addr} {fd : FuncData} {ps : List Str} {g : FIX} {n : Nat} {dvs : List V} {ds : List Value} {dd : List D} {x : Str} {p pos : Pos} {e : Expr} {es : List Expr} {fs : SA}
end
end LW

/-! LwFc: short words for classes whose __init__ may raise. -/
namespace LW
open PySem L2 PyProof.Rows
section
variable (P : Program) (w : World) (K : PySem.W.Frag) (mg : Str → Option Value) (base : Heap)
end
section
variable {P : Program} {w : World} {K : PySem.W.Frag} {mg : Str → Option Value} {base : Heap} {k n : Nat} {cn qual : Str} {C : Addr} {st : Stmt} {nm ps : List Str} {body : SX}
end
section
variable {mg : Glob} {X : Cx} {W : WX} {k n : Nat} {C : Addr} {ps : List Str} {g : FIX} {x : Str} {p pos : Pos} {e : Expr} {es : List Expr} {fs : SA}
end
/-! ### forward rules -/
section
variable {env : Env} {st : Sto} {QE : RX → Sto → Prop}
end
end LW

/-! LwFd: xs == [] , the things in xs of any kind. -/
namespace L2
open PySem PySem.Spec PyProof.Rows
end L2
namespace LW
open PySem L2 PyProof.Rows
section
variable {mg : Glob} {X : Cx} {a b : Expr} {pos : Pos} {fa fb : SE}
end
end LW

/-! LwGa: dicts in cells: made, written, cleared. -/
namespace LW
open PySem L2 PyProof.Rows
section
variable {mg : Glob} {N N' : Prot} {c c' : List Addr} {H H' : Hp} {st st' : Sto} {v : V} {xs : List D}
theorem Wd.cellO {p : Addr} {o : HO} (W : Wd mg N c H st) (np : N p) (nc : p ∉ c) (hp : H p = some o) (r : CRep mg N c H o xs) : Wd mg N (c ++ [p]) H (st ++ [xs]) := by
  have hl := W.len
  have tr : Tr N c H N (c ++ [p]) H := ⟨fun _ _ e _ => e, fun a z => .inl z, fun k a e => by rw [List.getElem?_append_left (List.getElem?_eq_some_iff.mp e).1]; exact e, fun _ _ e => e⟩
  refine ⟨by rw [List.length_append, List.length_append, hl]; rfl, fun k a ys h1 h2 => ?_, fun a z => ?_, ?_, W.trk⟩
  · by_cases hk : k < c.length
    · rw [List.getElem?_append_left hk] at h1
      rw [List.getElem?_append_left (by omega)] at h2
      obtain ⟨us, ha, rr⟩ := W.sto k a ys h1 h2
      exact ⟨us, ha, rr.tr tr⟩
    · rw [List.getElem?_append_right (by omega)] at h1 h2
      by_cases e : k - c.length = 0
      · rw [e] at h1
        rw [← hl, e] at h2
        cases h1
        cases h2
        exact ⟨_, hp, r.tr tr⟩
      · rw [List.getElem?_eq_none (by simp; omega)] at h1
        cases h1
  · rcases List.mem_append.mp z with z | z
    · exact W.cn a z
    · have e : a = p := by simpa using z
      rw [e]; exact np
  · exact List.nodup_append.mpr ⟨W.nd, by simp, fun a ha b hb => by
      have e : b = p := by simpa using hb
      rw [e]
      exact fun z => nc (z ▸ ha)⟩
theorem Ex.cellO {p : Addr} (x : Ex N c H N' c' H') (hn : H p = none) : Ex N c H N' (c' ++ [p]) H' := ⟨x.keep, x.new, x.mono, fun k a e => by
    have e' := x.pre k a e
    rw [List.getElem?_append_left (List.getElem?_eq_some_iff.mp e').1]
    exact e', fun a z => by
    rcases List.mem_append.mp z with z | z
    · exact x.newc a z
    · have e : a = p := by simpa using z
      rw [e]; exact .inr hn⟩
theorem RD.cel {d : DK} (W : Wd mg N c H st) (x : Ex N c H N' c' H') (W' : Wd mg N' c' H' st') (h : RD mg N c H N' c' H' v d) : ∃ c'', Ex N c H N' c'' H' ∧ Wd mg N' c'' H' (st' ++ [unC d]) ∧ Rep mg N' c'' H' v (.dcl st'.length) := by
  obtain ⟨p, kvs, rfl, hn, np, nc, hp, hm, r⟩ := h
  refine ⟨c' ++ [p], x.cellO hn, ?_, .dcl ?_⟩
  · have := W'.cellO np nc hp (CRep.k r)
    rw [hm] at this
    exact this
  · rw [← W'.len, List.getElem?_append_right (Nat.le_refl _)]
    simp
end
/-- a new dict as a cell -/
def eDcl (f : Fx DK) : SE := fun env st => match f env st with
  | some (d, s1) => some (.dcl s1.length, s1 ++ [unC d])
  | none => none
section
variable {mg : Glob} {X : Cx} {e : Expr} {f : Fx DK}
end
/-- d[k] = e, d a dict in a cell -/
def sPutDC (fo fk fe : SE) : SS := fun env st => match fe env st with
  | some (d, s1) => match fo env s1 with
    | some (.dcl k, s2) => match fk env s2 with
      | some (y, s3) => match keyD y with
        | some kk => match dcU s3 k with
          | some p => if p.1.length < 1000000 then some (.nx env, s3.set k (unC (putKD p kk d))) else none
          | none => none
        | none => none
      | none => none
    | _ => none
  | none => none
/-- d.clear() -/
def sClrC (fo : SE) : SS := fun env st => match fo env st with
  | some (.dcl k, s1) => match dcU s1 k with
    | some _ => some (.nx env, s1.set k (unC ([], [])))
    | none => none
  | _ => none
section
variable {mg : Glob} {X : Cx} {e o ek : Expr} {pos apos cpos tpos : Pos} {fe fo fk : SE}
end
end LW

/-! LwGb: walks over the keys of a dict in a cell. -/
namespace LW
open PySem L2 PyProof.Rows
open Classical
noncomputable section
end
section
variable {mg : Glob} {N N' : Prot} {c c' : List Addr} {H H' : Hp} {st st' : Sto}
end
section
variable {mg : Glob} {X : Cx} {tg : Expr} {pos : Pos}
variable {eltE : Expr} {ifs : List Expr} {scope : Scope} {own : List (Str × Nat)} {asg : D → Env → Option Env} {cond : SB} {elt : SE} {g : TG} {is : List Nat}
end
end LW
namespace LW
open PySem L2 PyProof.Rows
open Classical
section
variable {mg : Glob} {X : Cx} {tg : Expr} {body : List Stmt} {pos : Pos} {fb : SS} {asg : D → Env → Option Env} {g : TG} {is : List Nat}
end
/-! ### how mirrors run -/
section
variable {asg : D → Env → Option Env} {cond : SB} {elt : SE} {env0 : Env} {st : Sto} {vs : List Nat} {QL : List D → Sto → Prop} {i k : Nat} {p : DK} {fb : SS} {QO : Out → Sto → Prop}
theorem dcU_of {st : Sto} {k : Nat} {p : DK} (h : st[k]? = some (unC p)) : dcU st k = some p := by
  unfold dcU
  rw [h]
  rfl
end
end LW

/-! LwGc: == and != of equal things whatever the order of their dicts' keys, lists and dicts in cells too. -/
namespace LW
open PySem L2 PyProof.Rows
section
variable {X : Cx}
end
/-! ### equal data, with a store -/
section
variable {mg : Glob} {N : Prot} {c : List Addr} {H : Hp} {st : Sto}
end
section
variable {mg : Glob} {X : Cx} {a b : Expr} {pos : Pos} {fa fb : SE}
end
end LW

/-! LwGd: while; len(d), list(d), dict(d) of a dict of the frame's own; len(set(list of texts)). -/
namespace LW
open PySem L2 PySem.Spec PyProof.Rows
/-! ### while, at most n turns -/
section
variable {mg : Glob} {X : Cx} {c : Expr} {body : List Stmt} {pos : Pos} {cond : SB} {fb : SS} {n : Nat}
end
section
variable {cond : SB} {body : SS} {env : Env} {st : Sto} {n : Nat} {QS : Out → Sto → Prop}
end
/-! ### len(d), list(d) -/
section
variable {mg : Glob} {X : Cx} {e : Expr} {es : List Expr} {p pos : Pos} {f : SA}
end
/-! ### dict(x), x a dict of the frame's own -/
def eDictO (i : Nat) : Fx DK := fun env st => match env[i]? with
  | some (.ownD ks ds) => some ((ks, ds), st)
  | _ => none
/-! ### len(set(list of texts)) -/
def eLenSN (fa : SE) : SE := fun env st => match fa env st with
  | some (x, s1) => (match lstS s1 x with
    | some zs => if zs.length < 64 then some (.int (sortN zs).length, s1) else none
    | none => none)
  | none => none
end LW

/-! LwGe: x = [.. for .. in .. for .. in ..]. -/
namespace LW
open PySem L2 PyProof.Rows
section
variable {mg : Glob} {X : Cx} {fi fi2 : Fx Src} {asg asg2 : D → Env → Option Env} {cond cond2 : SB} {elt : SE} {g g2 : TG} {is is2 vs2 : List Nat} {eltE tg iter tg1 iter1 : Expr} {ifs ifs1 : List Expr} {scope : Scope} {own : List (Str × Nat)} {pos : Pos}
end
end LW

/-! LwGf: how mirrors with dicts in cells run. -/
namespace LW
open PySem L2
@[reducible] def AsDc : D → (Nat → Prop) → Prop
  | .dcl b, Q => Q b
  | _, _ => False
theorem AsDc.of {d : D} {Q : Nat → Prop} (h : AsDc d Q) : ∃ b, d = .dcl b ∧ Q b := by
  cases d <;> first | exact ⟨_, rfl, h⟩ | exact h.elim
section
variable {env : Env} {st : Sto} {Q : D → Sto → Prop} {QB : Bool → Sto → Prop} {QK : DK → Sto → Prop} {QL : List D → Sto → Prop} {QS : Out → Sto → Prop} {i : Nat} {d : D} {fa fb fe fo fk : SE} {f : Fx DK} {fs : SA}
theorem z_dcl (h : Ok (f env st) fun d s1 => Q (.dcl s1.length) (s1 ++ [unC d])) : Ok (eDcl f env st) Q := by
  obtain ⟨d, s1, e1, h⟩ := h
  exact ⟨_, _, by unfold eDcl; rw [e1], h⟩
theorem z_putDC (h : Ok (fe env st) fun d s1 => Ok (fo env s1) fun o s2 => AsDc o fun k => Ok (fk env s2) fun y s3 => ∃ kk p, keyD y = some kk ∧ s3[k]? = some (unC p) ∧ p.1.length < 1000000 ∧ QS (.nx env) (s3.set k (unC (putKD p kk d)))) : Ok (sPutDC fo fk fe env st) QS := by
  obtain ⟨d, s1, e1, o, s2, e2, h⟩ := h
  obtain ⟨k, rfl, y, s3, e3, kk, p, e4, e5, l, q⟩ := h.of
  exact ⟨_, _, by unfold sPutDC; rw [e1]; dsimp only; rw [e2]; dsimp only; rw [e3]; dsimp only; rw [e4]; dsimp only; rw [dcU_of e5]; dsimp only; rw [if_pos l], q⟩
theorem z_clrC (h : Ok (fo env st) fun o s1 => AsDc o fun k => ∃ p, s1[k]? = some (unC p) ∧ QS (.nx env) (s1.set k (unC ([], [])))) : Ok (sClrC fo env st) QS := by
  obtain ⟨o, s1, e1, h⟩ := h
  obtain ⟨k, rfl, p, e2, q⟩ := h.of
  exact ⟨_, _, by unfold sClrC; rw [e1]; dsimp only; rw [dcU_of e2], q⟩
theorem z_dictO {ks : List Key} {ds : List D} (e : env[i]? = some (.ownD ks ds)) (q : QK (ks, ds) st) : Ok (eDictO i env st) QK := ⟨_, st, by unfold eDictO; rw [e], q⟩
theorem z_lenSN (h : Ok (fe env st) fun x s => ∃ zs, lstS s x = some zs ∧ zs.length < 64 ∧ Q (.int (sortN zs).length) s) : Ok (eLenSN fe env st) Q := by
  obtain ⟨x, s1, e1, zs, e2, l, q⟩ := h
  exact ⟨_, s1, by unfold eLenSN; rw [e1]; dsimp only; rw [e2]; dsimp only; rw [if_pos l], q⟩
theorem z_lc2 {fi fi2 : Fx Src} {asg asg2 : D → Env → Option Env} {cond cond2 : SB} {elt : SE} {vs vs2 : List Nat} (h : Ok (fi env st) fun xs s1 => Ok (comp2M xs.2 asg cond fi2 asg2 cond2 elt vs2 (wipeE env vs) xs.1 s1) fun ys s => ys.length ≤ 1000000 ∧ QL ys s) : Ok (lComp2 fi asg cond fi2 asg2 cond2 elt vs vs2 env st) QL := by
  obtain ⟨x, s1, e1, ys, s, e2, l, q⟩ := h
  exact ⟨_, _, by unfold lComp2; rw [e1]; dsimp only; rw [e2]; dsimp only; rw [if_pos l], q⟩
end
end LW

/-! LwGg: d.get(k, x), list(d.items()) of a dict in a cell. -/
namespace LW
open PySem L2 PyProof.Rows
section
variable {mg : Glob} {X : Cx} {o e f : Expr} {apos cpos pos p : Pos} {fo fk fx : SE}
end
section
variable {mg : Glob} {X : Cx} {e : Expr} {apos cpos pos p : Pos} {fo : SE}
end
section
variable {env : Env} {st : Sto} {Q : D → Sto → Prop} {QL : List D → Sto → Prop} {fo fk fx : SE}
end
end LW

/-! LwHa: instances in cells: made, read, written, their methods; methods with defaults. -/
namespace LW
open PySem L2 PyProof.Rows
/-- the instance in a cell -/
def ocG (st : Sto) (k : Nat) : Option (Str × List Str × List D) := match st[k]? with
  | some [.dit [_] [], .obj cn ns vs] => some (cn, ns, vs)
  | _ => none
abbrev iC (cn : Str) (ns : List Str) (vs : List D) : List D := [tagD, .obj cn ns vs]
theorem ocG_of {st : Sto} {k : Nat} {cn : Str} {ns : List Str} {vs : List D} (e : st[k]? = some (iC cn ns vs)) : ocG st k = some (cn, ns, vs) := by
  unfold ocG
  rw [e]
  rfl
theorem Wd.ocG {mg : Glob} {N : Prot} {c : List Addr} {H : Hp} {st : Sto} (W : Wd mg N c H st) {k : Nat} {a : Addr} {cn : Str} {ns : List Str} {vs : List D} (hc : c[k]? = some a) (e : ocG st k = some (cn, ns, vs)) :
    ∃ C dx fs, H a = some (.ins C dx fs) ∧ mg.mg cn = some (.ref C) ∧ fs.map (·.1) = ns ∧ RepL mg N c H (fs.map (·.2)) vs := by
  unfold LW.ocG at e
  split at e
  · rename_i h
    cases e
    obtain ⟨o, ha, r⟩ := W.sto k a _ hc h
    cases r with
    | l r => have := r.noTag; cases this
    | i hC r => exact ⟨_, _, _, ha, hC, rfl, r⟩
  · cases e
/-! ### made -/
def eMakeC (cn : Str) (g : FI) (dd : List D) (f : SA) : SE := fun env st => match f env st with
  | none => none
  | some (ds, s1) => match g (ds ++ dd) s1 with
    | none => none
    | some ((ns, fds), s2) => some (.ocl s2.length, s2 ++ [iC cn ns fds])
section
variable {mg : Glob} {X : Cx} {k : Nat} {f C : Addr} {fd : FuncData} {ps : List Str} {g : FI} {n : Nat} {dvs : List V} {ds : List Value} {dd : List D} {x m : Str} {p pos apos : Pos} {e o : Expr} {es : List Expr} {fs : SA} {fo : SE}
end
/-! ### methods -/
def eMethC (cn m : Str) (g : FM) (dd : List D) (fo : SE) (f : SA) : SE := fun env st => match fo env st with
  | some (.ocl k, s1) => match ocG s1 k with
    | some (cn', ns, _) => if cn' = cn ∧ ¬ m ∈ ns then (match f env s1 with
        | none => none
        | some (ds, s2) => g (.ocl k :: (ds ++ dd)) s2) else none
    | none => none
  | _ => none
section
variable {mg : Glob} {X : Cx} {k : Nat} {f C : Addr} {fd : FuncData} {ps : List Str} {g : FM} {n : Nat} {dvs : List V} {ds : List Value} {dd : List D} {x m : Str} {p pos apos : Pos} {e o : Expr} {es : List Expr} {fs : SA} {fo : SE}
/-! ### fields -/
def eFldC (cn m : Str) (fo : SE) : SE := fun env st => match fo env st with
  | some (.ocl k, s1) => match ocG s1 k with
    | some (cn', ns, vs) => if cn' = cn then (match fldD m ns vs with
        | some d => some (d, s1)
        | none => none) else none
    | none => none
  | _ => none
/-- o.m = e -/
def sFldC (cn m : Str) (fo fe : SE) : SS := fun env st => match fe env st with
  | some (d, s1) => match fo env s1 with
    | some (.ocl k, s2) => match ocG s2 k with
      | some (cn', ns, vs) => if cn' = cn ∧ ns.length < 1000 then some (.nx env, s2.set k (iC cn' (putD m d ns vs).1 (putD m d ns vs).2)) else none
      | none => none
    | _ => none
  | none => none
end
/-! ### methods with defaults -/
section
variable (P : Program) (w : World) (K : PySem.W.Frag) (mg : Str → Option Value) (base : Heap)
end
section
variable {P : Program} {w : World} {K : PySem.W.Frag} {mg : Str → Option Value} {base : Heap} {k : Nat} {x m qual cn : Str} {st : Stmt} {nm ps : List Str} {body : SS} {C : Addr}
end
/-! ### short words -/
section
variable {X : Cx} {k : Nat} {C : Addr} {ps : List Str} {g : FM} {gi : FI} {n : Nat} {dvs : List V} {dd : List D} {x m cn : Str} {p pos apos : Pos} {e o a b : Expr} {es : List Expr} {fs : SA} {fo fa fb : SE}
end
/-! ### told backwards -/
@[reducible] def AsOc : D → (Nat → Prop) → Prop
  | .ocl b, Q => Q b
  | _, _ => False
theorem AsOc.of {d : D} {Q : Nat → Prop} (h : AsOc d Q) : ∃ b, d = .ocl b ∧ Q b := by
  cases d <;> first | exact ⟨_, rfl, h⟩ | exact h.elim
section
variable {env : Env} {st : Sto} {Q : D → Sto → Prop} {QS : Out → Sto → Prop} {fe fo : SE} {fs : SA} {cn m : Str} {dd : List D}
theorem z_makeC {g : FI} (h : Ok (fs env st) fun ds s => Ok (g (ds ++ dd) s) fun r s2 => Q (.ocl s2.length) (s2 ++ [iC cn r.1 r.2])) : Ok (eMakeC cn g dd fs env st) Q := by
  obtain ⟨x, s1, e1, r, s2, e2, q⟩ := h
  exact ⟨_, _, by unfold eMakeC; rw [e1]; dsimp only; rw [e2], q⟩
theorem z_methC {g : FM} (h : Ok (fo env st) fun o s1 => AsOc o fun k => ∃ ns vs, s1[k]? = some (iC cn ns vs) ∧ ¬ m ∈ ns ∧ Ok (fs env s1) fun ds s2 => Ok (g (.ocl k :: (ds ++ dd)) s2) Q) : Ok (eMethC cn m g dd fo fs env st) Q := by
  obtain ⟨o, s1, e1, h⟩ := h
  obtain ⟨k, rfl, ns, vs, ek, hm, ds, s2, e2, d, s3, e3, q⟩ := h.of
  exact ⟨d, s3, by unfold eMethC; rw [e1]; dsimp only; rw [ocG_of ek]; dsimp only; rw [if_pos ⟨rfl, hm⟩, e2]; exact e3, q⟩
theorem z_fldC (h : Ok (fo env st) fun o s1 => AsOc o fun k => ∃ ns vs, s1[k]? = some (iC cn ns vs) ∧ Od (fldD m ns vs) fun d => Q d s1) : Ok (eFldC cn m fo env st) Q := by
  obtain ⟨o, s1, e1, h⟩ := h
  obtain ⟨k, rfl, ns, vs, ek, d, e3, q⟩ := h.of
  exact ⟨d, s1, by unfold eFldC; rw [e1]; dsimp only; rw [ocG_of ek]; dsimp only; rw [if_pos rfl, e3], q⟩
theorem z_sfldC (h : Ok (fe env st) fun d s1 => Ok (fo env s1) fun o s2 => AsOc o fun k => ∃ ns vs, s2[k]? = some (iC cn ns vs) ∧ ns.length < 1000 ∧ QS (.nx env) (s2.set k (iC cn (putD m d ns vs).1 (putD m d ns vs).2))) : Ok (sFldC cn m fo fe env st) QS := by
  obtain ⟨d, s1, e1, o, s2, e2, h⟩ := h
  obtain ⟨k, rfl, ns, vs, ek, l, q⟩ := h.of
  exact ⟨_, _, by unfold sFldC; rw [e1]; dsimp only; rw [e2]; dsimp only; rw [ocG_of ek]; dsimp only; rw [if_pos ⟨rfl, l⟩], q⟩
end
end LW

/-! LwIa: methods that may raise; conditional expressions, loops and pairs that may raise; raise C(). -/
namespace LW
open PySem L2 PyProof.Rows
/-! ### methods that may raise -/
def eMethX (cn m : Str) (g : FX) (dd : List D) (fo : SE) (f : SA) : EX := fun env st => match fo env st with
  | some (.obj cn' ns vs, s1) => if cn' = cn ∧ ¬ m ∈ ns then (match f env s1 with
      | none => none
      | some (ds, s2) => g (.obj cn' ns vs :: (ds ++ dd)) s2) else none
  | _ => none
def eMethCX (cn m : Str) (g : FX) (dd : List D) (fo : SE) (f : SA) : EX := fun env st => match fo env st with
  | some (.ocl k, s1) => match ocG s1 k with
    | some (cn', ns, _) => if cn' = cn ∧ ¬ m ∈ ns then (match f env s1 with
        | none => none
        | some (ds, s2) => g (.ocl k :: (ds ++ dd)) s2) else none
    | none => none
  | _ => none
section
variable {mg : Glob} {X : Cx} {W : WX} {k : Nat} {f C : Addr} {fd : FuncData} {ps : List Str} {g : FX} {n : Nat} {dvs : List V} {ds : List Value} {dd : List D} {x m : Str} {p pos apos : Pos} {e o : Expr} {es : List Expr} {fs : SA} {fo : SE}
end
/-! ### short words -/
section
variable (P : Program) (w : World) (K : PySem.W.Frag) (mg : Str → Option Value) (base : Heap)
end
section
variable {P : Program} {w : World} {K : PySem.W.Frag} {mg : Str → Option Value} {base : Heap} {k : Nat} {x m qual : Str} {st : Stmt} {nm ps : List Str} {body : SX} {C : Addr}
end
section
variable {X : Cx} {W : WX} {k : Nat} {C : Addr} {ps : List Str} {g : FX} {m cn : Str} {p pos apos : Pos} {e o : Expr} {es : List Expr} {fs : SA} {fo : SE}
end
/-! ### a if c else b; plain expressions among those that may raise -/
def xIfE (t : SB) (f g : EX) : EX := fun env st => match t env st with
  | some (true, s1) => f env s1
  | some (false, s1) => g env s1
  | none => none
def xEL (f : SE) : EX := fun env st => match f env st with
  | some (d, s1) => some (.ok d, s1)
  | none => none
section
variable {mg : Glob} {X : Cx} {W : WX} {e a b c : Expr} {pos : Pos} {f g : EX} {fe : SE} {t : SB}
theorem PostE.from {σ : L2.St} {N N' : Prot} {c c' : List Addr} {H H' : Hp} {st st' : Sto} {Q : VK} {r : RX} (x : Ex N c H N' c' H') (W0 : Wd mg N c H st) (p : PostE mg W σ N c H Q r st') : PostE mg W σ N' c' H' Q r st' := by
  cases r with
  | ok d => exact fun v N2 c2 H2 x2 W2 r2 => p v N2 c2 H2 (x.trans x2 W0) W2 r2
  | ex cn d => exact fun N2 c2 H2 cls da x2 W2 z => p N2 c2 H2 cls da (x.trans x2 W0) W2 z
end
/-! ### for -/
def loopX (chk : Sto → Bool) (asg : D → Env → Option Env) (body : SX) : List D → Env → Sto → Option (OutX × Sto)
  | [], env, st => if chk st = true then some (.o (.nx env), st) else none
  | d :: ds, env, st => if chk st = true then (match asg d env with
    | none => none
    | some e1 => match body e1 st with
      | some (.o (.nx e2), s2) => loopX chk asg body ds e2 s2
      | some (.o (.ct e2), s2) => loopX chk asg body ds e2 s2
      | some (.o (.bk e2), s2) => some (.o (.nx e2), s2)
      | some (.o (.rt d), s2) => some (.o (.rt d), s2)
      | some (.ex cn d e2, s2) => some (.ex cn d e2, s2)
      | none => none) else none
def xFor (fi : Fx Src) (asg : D → Env → Option Env) (body : SX) : SX := fun env st => match fi env st with
  | none => none
  | some (xs, s1) => loopX xs.2 asg body xs.1 env s1
section
variable {mg : Glob} {X : Cx} {W : WX} {tg iter : Expr} {body : List Stmt} {pos : Pos} {fi : Fx Src} {asg : D → Env → Option Env} {fb : SX} {g : TG} {is : List Nat}
end
/-! ### a, b = x, y: the first may raise -/
def xPar2 (i j : Nat) (f : EX) (g : Fx Sl) : SX := fun env st => match f env st with
  | some (.ok d, s1) => (match g env s1 with
    | some (y, s2) => if i = j then none else some (.o (.nx ((env.set i (.val d)).set j y)), s2)
    | none => none)
  | some (.ex cn d, s1) => some (.ex cn d env, s1)
  | none => none
section
variable {mg : Glob} {X : Cx} {W : WX} {a b : Expr} {pos : Pos} {fa : EX} {fb : Fx Sl}
end
/-! ### raise C(), a class without an own __init__ -/
def xBare (cn : Str) : SX := fun env st => some (.ex cn bareD env, st)
end LW

/-! LwIb: raise C() of a class without an own __init__; len(o) by an own __len__; == of lists of tuples with instances that have an own __eq__. -/
namespace LW
open PySem L2 PyProof.Rows
/-! ### raise C() -/
/-- the exception class cn, without an own __init__ -/
def BF (K : PySem.W.Frag) (mg : Str → Option Value) (cn : Str) : Prop := ∃ C, mg cn = some (.ref C) ∧ PySem.W.keepIn K (.ref C) = true ∧ PySem.W.excIn K C HandSPX.veTail "ValueError.__new__" = true ∧ PySem.W.subIn K (.ref C) (.type "BaseException") = some true ∧ PySem.W.typeIn K (.ref C) = some (.type "type")
section
variable {X : Cx} {C : Addr} {x : Str} {p pos pos2 : Pos} {mg : Glob} {W : WX}
end
/-! ### len(o) -/
section
variable {X : Cx} {k : Nat} {f C : Addr} {fd : FuncData} {ps : List Str} {sp : Sp}
end
def isOf (st : Sto) (cn : Str) : D → Bool
  | .obj c _ _ => decide (c = cn)
  | .ocl k => match ocG st k with
    | some (c, _, _) => decide (c = cn)
    | none => false
  | _ => false
def eLenO (cn : Str) (g : FM) (fo : SE) : SE := fun env st => match fo env st with
  | some (d, s1) => if isOf s1 cn d = true then (match g [d] s1 with
    | some (.int n, s2) => if 0 ≤ n ∧ n < 2 ^ 63 then some (.int n, s2) else none
    | _ => none) else none
  | none => none
section
variable {X : Cx} {k : Nat} {C : Addr} {ps : List Str} {g : FM} {cn : Str} {p pos : Pos} {e : Expr} {fo : SE}
end
section
variable {env : Env} {st : Sto} {Q : D → Sto → Prop} {fo : SE} {cn : Str} {g : FM}
theorem z_lenO (h : Ok (fo env st) fun d s1 => isOf s1 cn d = true ∧ Ok (g [d] s1) fun r s2 => ∃ n : Int, r = .int n ∧ 0 ≤ n ∧ n < 2 ^ 63 ∧ Q (.int n) s2) : Ok (eLenO cn g fo env st) Q := by
  obtain ⟨d, s1, e1, hi, r, s2, e2, n, rfl, h0, h1, q⟩ := h
  exact ⟨_, s2, by unfold eLenO; rw [e1]; dsimp only; rw [if_pos hi, e2]; dsimp only; rw [if_pos ⟨h0, h1⟩], q⟩
end
end LW

/-! LwIc: == of two lists of equal data, with instances of one class that has an own __eq__ within. -/
namespace LW
open PySem L2 PyProof.Rows
abbrev nobody : Prot := fun _ => False
section
variable {mg : Glob} {N : Prot} {c : List Addr} {H H' : Hp}
end
section
variable {X : Cx} {k : Nat} {C f : Addr} {fd : FuncData} {g : FM} {cn : Str} {ps : List Str}
end
/-! ### the rule -/
section
variable {X : Cx} {k : Nat} {C : Addr} {cs : List Str} {g : FM} {cn : Str} {a b : Expr} {pos : Pos} {fa fb : SE}
end
section
variable {s : Sto} {Q : D → Prop} {cn : Str} {g : FM} {xs ys : List D}
end
end LW

/-! LwId: one of two readings; a frozen slot ahead of a statement that may raise; comprehensions over the keys of a field's dict; sorted(d.items()). -/
namespace LW
open PySem L2 PyProof.Rows
/-! ### the one reading or the other -/
def xFrz (i : Nat) (f : SX) : SX := fun env st => f (frz i env) st
section
variable {mg : Glob} {X : Cx} {W : WX} {e : Expr} {s : Stmt} {f g : SE} {fx : SX}
end
/-! ### [.. for key in o.m if ..] -/
section
variable {mg : Glob} {X : Cx} {tg : Expr} {pos : Pos} {cn m : Str} {C : Addr}
variable {eltE : Expr} {ifs : List Expr} {scope : Scope} {own : List (Str × Nat)} {asg : D → Env → Option Env} {cond : SB} {elt : SE} {g : TG} {is : List Nat}
end
/-! ### sorted(d.items()) -/
/-- the text of the pair at an address -/
def kx (as : List Addr) (zs : List Str) : Value → Str
  | .ref b => (zs[as.idxOf b]?).getD ""
  | _ => ""
section
variable {prog : Program} {w : World} {A : Around} {s : Shared}
end
end LW

/-! LwIe: sorted(d.items()), d a dict of texts' keys. -/
namespace LW
open PySem PySem.Spec L2 PyProof.Rows
section
variable {X : Cx} {e : Expr} {te : TE} {p apos cpos pos : Pos}
end
/-! ### the mirror -/
def itS (p : DK) (zs : List Str) : List D := (sortS zs).map fun z => .tup [.str z, (getD p.1 p.2 (.inr z)).getD .non]
def eSortIt (fo : SE) : Fx (List D) := fun env st => match fo env st with
  | some (o, s1) => match dicG s1 o with
    | some p => match strKeys p.1 with
      | some zs => some (itS p zs, s1)
      | none => none
    | none => none
  | none => none
section
variable {mg : Glob} {N : Prot} {c : List Addr} {H H' : Hp}
end
section
variable {mg : Glob} {X : Cx} {e : Expr} {apos cpos pos p : Pos} {fo : SE}
end
section
variable {env : Env} {st : Sto} {Q : D → Sto → Prop} {QL : List D → Sto → Prop} {fo : SE}
theorem z_sortIt (h : Ok (fo env st) fun o s1 => ∃ p zs, dicG s1 o = some p ∧ strKeys p.1 = some zs ∧ QL (itS p zs) s1) : Ok (eSortIt fo env st) QL := by
  obtain ⟨o, s1, e1, p, zs, e2, e3, q⟩ := h
  exact ⟨_, s1, by unfold eSortIt; rw [e1]; dsimp only; rw [e2]; dsimp only; rw [e3], q⟩
end
end LW

/-! LwIf: how the mirrors of LwIa … LwIe run, told backwards. -/
namespace LW
open PySem L2
section
variable {env : Env} {st : Sto} {f g : EX} {fx : SX} {fe fo : SE} {fs : SA} {t : SB} {Q : OutX → Sto → Prop} {QE : RX → Sto → Prop} {QD : D → Sto → Prop} {QS : Out → Sto → Prop} {cn m : Str} {i j : Nat}
theorem z_xSet (h : Ok (f env st) fun r s => match r with
    | .ok d => Q (.o (.nx (env.set i (.val d)))) s
    | .ex cn d => Q (.ex cn d env) s) : Ok (xSet i f env st) Q := by
  obtain ⟨r, s, e, q⟩ := h
  cases r with
  | ok d => exact ⟨_, s, by unfold xSet; rw [e], q⟩
  | ex cn d => exact ⟨_, s, by unfold xSet; rw [e], q⟩
theorem z_methX {gx : FX} {dd : List D} (h : Ok (fo env st) fun d s => ∃ ns vs, d = .obj cn ns vs ∧ ¬ m ∈ ns ∧ Ok (fs env s) fun ds s2 => Ok (gx (.obj cn ns vs :: (ds ++ dd)) s2) QE) : Ok (eMethX cn m gx dd fo fs env st) QE := by
  obtain ⟨d, s, e, ns, vs, rfl, hm, ds, s2, e2, q⟩ := h
  unfold eMethX
  rw [e]
  dsimp only
  rw [if_pos ⟨rfl, hm⟩, e2]
  exact q
theorem z_methCX {gx : FX} {dd : List D} (h : Ok (fo env st) fun d s => AsOc d fun k => ∃ ns vs, s[k]? = some (iC cn ns vs) ∧ ¬ m ∈ ns ∧ Ok (fs env s) fun ds s2 => Ok (gx (.ocl k :: (ds ++ dd)) s2) QE) : Ok (eMethCX cn m gx dd fo fs env st) QE := by
  obtain ⟨d, s, e, h⟩ := h
  obtain ⟨k, rfl, ns, vs, hk, hn, ds, s2, e2, q⟩ := h.of
  unfold eMethCX
  rw [e]
  dsimp only
  rw [ocG_of hk]
  dsimp only
  rw [if_pos ⟨rfl, hn⟩, e2]
  exact q
theorem z_xIfE (h : Ok (t env st) fun b s => if b = true then Ok (f env s) QE else Ok (g env s) QE) : Ok (xIfE t f g env st) QE := by
  obtain ⟨b, s, e, q⟩ := h
  unfold xIfE
  rw [e]
  cases b with
  | true => exact q
  | false => exact q
theorem z_xEL (h : Ok (fe env st) fun d s => QE (.ok d) s) : Ok (xEL fe env st) QE := by
  obtain ⟨d, s, e, q⟩ := h
  exact ⟨_, s, by unfold xEL; rw [e], q⟩
theorem z_xPar2 {fg : Fx Sl} (hij : i ≠ j) (h : Ok (f env st) fun r s => match r with
    | .ok d => Ok (fg env s) fun y s2 => Q (.o (.nx ((env.set i (.val d)).set j y))) s2
    | .ex cn d => Q (.ex cn d env) s) : Ok (xPar2 i j f fg env st) Q := by
  obtain ⟨r, s, e, q⟩ := h
  cases r with
  | ok d =>
    obtain ⟨y, s2, e2, q⟩ := q
    exact ⟨_, s2, by unfold xPar2; rw [e]; dsimp only; rw [e2]; dsimp only; rw [if_neg hij], q⟩
  | ex cn d => exact ⟨_, s, by unfold xPar2; rw [e], q⟩
theorem z_xBare (q : Q (.ex cn bareD env) st) : Ok (xBare cn env st) Q := ⟨_, st, rfl, q⟩
theorem z_xFrz (h : Ok (fx (frz i env) st) Q) : Ok (xFrz i fx env st) Q := h
theorem z_xFor {fi : Fx Src} {asg : D → Env → Option Env} {body : SX} (h : Ok (fi env st) fun xs s => Ok (loopX xs.2 asg body xs.1 env s) Q) : Ok (xFor fi asg body env st) Q := by
  obtain ⟨xs, s, e, q⟩ := h
  unfold xFor
  rw [e]
  exact q
end
end LW

/-! LwHb: a head by one kernel run: the facts that a law needs, read by a Hook. -/
namespace LW
open PySem L2 PyProof.Rows
/-- the goal that head_any leaves, from the law's promise; the written part by facts -/
theorem walk_DE {l : PySem.W.OpenLaw} {n k : Nat} {q : Program} {loose : List Str} {XP : (Str → Option Value) → Heap → Prop} {YP : World → Heap → Prop} {d : DefRec} {x : Str} {g : FM}
    (hn : l.most = some n) (hn2 : n ≤ sizeLine) (hdf : d.params.defaults = []) (hr : Room k callerA)
    (F : ∀ (w : World) (mg : Str → Option Value) (fa : Addr) (h : Heap), YP w h → h.Ns mainGlobals mg → mg d.name = some (.ref fa) →
      ∃ K : PySem.W.Frag, K.In h ∧ ∃ fd : FuncData, (∀ (s : Shared) (u : Value), BindsTo s fd ⟨[u], []⟩ [(x, u)]) ∧ ∀ base : Heap, K.In base → base.Ns mainGlobals mg → FnD l.prog w K mg base k fa fd [x] (spM ⟨mg, K⟩ g 1))
    (hg : ∀ ns : List Int, ns.length ≤ n → ∃ st', g [.fro (ns.map D.int)] [] = some (.bl true, st')) :
    PySem.W.WalkO q loose XP YP l.row.toRowW d [] (fun f vs => PySem.call f vs) := by
  refine Att.attach_call hn hdf fun w s₀ s₁ mg mb fa o pm cd doc a vs ns G Y ho hd hcd hmg hobj hints hlen hg' => ?_
  obtain ⟨K, KX, fd, hb, hF⟩ := F w mg fa _ Y G.T.g hmg
  obtain ⟨st', e⟩ := hg ns hlen
  exact law_D KX G.T.g G.T.b G.T.builtins G.T.nolimit hg' hobj hints (Nat.le_trans hlen hn2) hr hF hb fun H hO hS => sp_law (mg := ⟨mg, K⟩) hO hS e
/-! ### the Hook: defs, facts by names, and one Bool more -/
/-! ### facts to words -/
section
variable {K : PySem.W.Frag} {h : Heap} {mg : Str → Option Value} {x cn m qual : Str} {st : Stmt}
theorem ft_of (X : K.In h) (G : h.Ns mainGlobals mg) (c : (He.Fa.glo x).ok K = true) (F : ∃ fd, FunD K x x (defArgs st) (defBody st) (defScope st) [] [] (He.fAd K (x, none)) fd) : FT K mg x st := by
  obtain ⟨fd, F⟩ := F
  exact ⟨_, fd, He.glo_ok X G c, He5.fun_of F⟩
theorem bf_of (X : K.In h) (G : h.Ns mainGlobals mg) (c : (He.Fa.glo cn).ok K = true) (e : (He.Fa.exc cn).ok K = true) : BF K mg cn := by
  obtain ⟨h1, h2, h3, h4⟩ := He.exc_ok e
  exact ⟨_, He.glo_ok X G c, h2, h1, h3, h4⟩
end
end LW

/-! LwHc: the program's own errors, read by the Hook. -/
namespace LW
open PySem PySem.W L2 PyProof.Rows
open PySem.LeafX PySem.HandSPX
theorem lfCB_ok {K : Frag} {C : Addr} (h : lfCB K C = true) : ∃ nm q N bs bm sn sub ab col dd k0 k1 k2 k3 k5, K.lookup C = some (excClassObj nm q C N bs bm true sn sub ab col dd k0 k1 k2 k3 k5 "ValueError.__new__") ∧ refsVE bm = true ∧ alongIn K "__init__" bm = some (some (.builtin "ValueError.__init__")) := by
  unfold lfCB at h
  split at h
  · rename_i t dd cd sl ho
    split at h
    · rename_i C' bm k0 k1 k2 k3 n k5 hm hs
      obtain ⟨e1, h⟩ := bsplit h
      obtain ⟨e2, h⟩ := bsplit h
      obtain ⟨e3, h⟩ := bsplit h
      obtain ⟨e4, h⟩ := bsplit h
      obtain ⟨e5, h⟩ := bsplit h
      obtain ⟨e6, e7⟩ := bsplit h
      have f1 := eqB_ok e1
      have f2 := eqB_ok e2
      have f3 := eqB_ok e3
      clear e1 e2 e3
      have f4 := eqB_ok e4
      have f5 := eqB_ok e5
      clear e4 e5
      subst f1 f2 f3
      obtain ⟨nm, bs, mro, ns, qn, hd, sn, sub, ab, col, del⟩ := cd
      dsimp only at hm f4 f5
      subst hm f4 f5
      have hsl : sl = #[k0, k1, k2, k3, some (.builtin "ValueError.__new__"), k5] := by
        obtain ⟨l⟩ := sl
        simp only at hs
        rw [hs]
      subst hsl
      exact ⟨nm, qn, ns, bs, bm, sn, sub, ab, col, dd, k0, k1, k2, k3, k5, ho, e6, He.eqO_ok e7⟩
    · cases h
  · cases h
theorem lf_of {P : Program} {K : Frag} {mg : Str → Option Value} {h : Heap} {d : LfD} {file : Str} (X : K.In h) (G : h.Ns mainGlobals mg) (c : (He.Fa.glo d.1).ok K = true) (hf : (P.main.file : Str) = file) (top : (P.main.scope.names.lookup ("super" : Str)).isSome = false) (e : lfW K d.1 = lfV d) (b : lfB file K d = true) : LF P K mg d.1 := by
  obtain ⟨b1, b⟩ := bsplit b
  obtain ⟨b2, b⟩ := bsplit b
  obtain ⟨b3, b⟩ := bsplit b
  obtain ⟨b4, b⟩ := bsplit b
  obtain ⟨b5, b⟩ := bsplit b
  obtain ⟨b6, b⟩ := bsplit b
  obtain ⟨b7, b⟩ := bsplit b
  obtain ⟨b8, b⟩ := bsplit b
  obtain ⟨b9, b⟩ := bsplit b
  obtain ⟨ba, b⟩ := bsplit b
  obtain ⟨bb, b⟩ := bsplit b
  obtain ⟨bc, b⟩ := bsplit b
  obtain ⟨bd, b⟩ := bsplit b
  obtain ⟨be, b⟩ := bsplit b
  obtain ⟨bf, bg⟩ := bsplit b
  refine ⟨He.ga K d.1, liA K d.1, d.2.1, He.glo_ok X G c, b9, ⟨lfCB_ok b1, He.eqO_ok b3, He.eqO_ok b6, He.eqO_ok b7, eqB_ok b8, eqB_ok ba, eqB_ok be, eqB_ok bb, eqB_ok bc, He.eqO_ok bd, ?_, top⟩, ⟨He.eqO_ok b4, He.eqO_ok b5, eqB_ok ba, bf⟩, He.eqO_ok b6⟩
  unfold lfFB at b2
  unfold lfW at e
  split at b2
  · rename_i oc od fd osl ho
    rw [ho] at e
    split at b2
    · rename_i nm cc oT cda h1 h2 h3
      obtain ⟨c1, c2⟩ := bsplit b2
      obtain ⟨c2, c3⟩ := bsplit c2
      obtain ⟨c3, c4⟩ := bsplit c3
      obtain ⟨n1, n2, n3, n4, n5, n6, n7, n8, n9, n10, n11, n12, n13, n14, n15⟩ := fd
      dsimp only at h1 h2 h3
      subst h1 h2 h3
      have e2 : (some (n1, n2, n3, n4, n5, n6, [nm], n15) : LfV) = (some (("__init__" : Str), d.2.1, iA d.2.2, FuncBody.stmts (iB d.2.2), iS, mainGlobals, [("__class__" : Str)], builtinsNs) : LfV) := e
      simp only [Option.some.injEq, Prod.mk.injEq, List.cons.injEq, and_true] at e2
      obtain ⟨g1, g2, g3, g4, g5, g6, g7, g8⟩ := e2
      subst g1 g2 g3 g4 g5 g6 g7 g8
      split at c2
      · rename_i oc2 od2 its nt os2 l2
        have ei := eqB_ok c2
        have ei : its = #[Value.none] := by
          obtain ⟨l⟩ := its
          simp only at ei
          rw [ei]
        subst ei
        split at c3
        · rename_i oc3 od3 vs os3 l3
          split at c3
          · rename_i f tf hv
            split at c4
            · rename_i oc4 od4 C' os4 l4
              have ec := eqB_ok c4
              subst ec
              exact ⟨oc, .none, od, n9, n10, n11, n14, n12, osl, d.2.2, cc, cda, oT, _, .none, nt, vs, f, tf, oc3, oc4, od3, od4, os3, os4, ho, c1, l2, rfl, rfl, l3, hv, by rw [hf]; exact c3, l4, by rw [eqB_ok bg]; exact beq_self_eq_true _⟩
            · cases c4
          · cases c3
        · cases c3
      · cases c2
    · cases b2
  · cases b2
/-! ### what the module's names reach, each address once -/
/-! ### the Hook: defs, facts by names, one Bool more, the own errors -/
theorem SaysC.lf {fa : List He.Fa} {fn : List He.DefD} {ln : List LfD} {ex : Frag → Bool} {K : Frag} (c : SaysC fa fn ln ex K) (i : Nat) {d : LfD} (h : ln[i]? = some d := by rfl) : lfW K d.1 = lfV d := by
  have e : (ln.map fun d => lfW K d.1)[i]? = (ln.map lfV)[i]? := by rw [c.l]
  rw [List.getElem?_map, List.getElem?_map, h] at e
  exact Option.some.inj e
theorem andL_ok : ∀ {l : List Bool} {i : Nat} {b : Bool}, andL l = true → l[i]? = some b → b = true
  | x :: l, 0, b, h, e => by
    cases e
    exact (bsplit h).1
  | x :: l, i + 1, b, h, e => andL_ok (bsplit h).2 e
end LW

/-! LwHd: != of lists whose items are compared by the text's own ==; list(d.items()) of any dict. -/
namespace PySem.SeqAt
open AutoSeq1 (wpAny_loadPart')
open MeetsSeq MeetsSeq2 MeetsSeq3 SeqRoads2
section
variable {P : Program} {w : World} {A : Around} {R : Result → Shared → Prop}
end
section
variable {P : Program} {w : World} {A : Around} {E : Value → Shared → Prop} {t : Shared}
end
end PySem.SeqAt
namespace LW
open PySem PySem.Spec L2 PyProof.Rows
section
variable {X : Cx} {n : Nat} {D : Eqv}
end
section
variable {X : Cx} {k : Nat} {C : Addr} {cs : List Str} {g : FM} {cn : Str} {a b : Expr} {pos : Pos} {fa fb : SE}
end
section
variable {s : Sto} {Q : D → Prop} {cn : Str} {g : FM} {xs ys : List D}
end
/-! ### list(d.items()) -/
section
variable {X : Cx} {e : Expr} {te : TE} {p apos cpos pos : Pos}
end
section
variable {mg : Glob} {X : Cx} {e : Expr} {apos cpos pos p : Pos} {fo : SE}
end
section
variable {env : Env} {st : Sto} {QL : List D → Sto → Prop} {fo : SE}
end
end LW

/-! LwHe: == and != of dicts of instances with an own __eq__, the keys in any order. -/
namespace LW
open PySem L2 PyProof.Rows
section
variable {mg : Glob} {X : Cx} {pins : List (Addr × Obj)} {σ : L2.St} {H : Hp} {s : Shared} {N : Prot} {c : List Addr} {st : Sto} {k : Nat} {C : Addr} {cs : List Str} {g : FM} {cn : Str} {E : Value → Shared → Prop}
end
section
variable {X : Cx} {k : Nat} {C : Addr} {cs : List Str} {g : FM} {cn : Str} {a b : Expr} {pos : Pos} {fa fb : SE}
end
end LW

/-! LwJa: walks over dicts whose keys are tuples (printed by mkt.py from LwYc, LwZc). -/
namespace LW
open PySem L2 PyProof.Rows
/-- a heap in which dicts are locked or unlocked -/
structure LkT (N : Prot) (H H' : Hp) : Prop where
  keep : ∀ a o, H a = some o → (∀ kvs, ¬ (o = .dT kvs ∨ ∃ b, o = .frz b (.dT kvs))) → H' a = some o
  dic : ∀ a kvs, Rd H a (.dT kvs) → Rd H' a (.dT kvs)
  ex : ∀ a, N a → H' a = H a
section
variable {mg : Glob} {N : Prot} {c : List Addr} {H H' : Hp} {st : Sto}
theorem LkT.some (l : LkT N H H') {a : Addr} (h : H a ≠ none) : H' a ≠ none := by
  cases e : H a with
  | none => exact absurd e h
  | some o =>
    by_cases q : ∃ kvs, o = .dT kvs ∨ ∃ b, o = .frz b (.dT kvs)
    · obtain ⟨kvs, q⟩ := q
      have : Rd H a (.dT kvs) := q.elim (fun z => .inl (by rw [e, z])) fun ⟨b, z⟩ => .inr ⟨b, by rw [e, z]⟩
      rcases l.dic a kvs this with z | ⟨b, z⟩ <;> rw [z] <;> exact fun y => nomatch y
    · rw [l.keep a o e fun kvs z => q ⟨kvs, z⟩]
      exact fun y => nomatch y
end
/-! ### walks over the keys -/
section
variable {mg : Glob} {X : Cx} {tg : Expr} {pos : Pos}
variable {eltE : Expr} {ifs : List Expr} {scope : Scope} {own : List (Str × Nat)} {asg : D → Env → Option Env} {cond : SB} {elt : SE} {g : TG} {is : List Nat}
end
section
variable {mg : Glob} {N N' : Prot} {c c' : List Addr} {H H' : Hp} {st st' : Sto} {E : En} {env env' : Env} {σ σ' : L2.St} {a : Addr} {od : Obj} {kvs : List (List Key × V)}
end
section
variable {mg : Glob} {X : Cx} {tg : Expr} {body : List Stmt} {pos : Pos} {fb : SS} {asg : D → Env → Option Env} {g : TG} {is : List Nat}
end
end LW

/-! LwJb: dicts whose keys are tuples: read, written, the frame's own (printed by mkt2.py in part). -/
namespace LW
open PySem L2 PyProof.Rows
abbrev DKT : Type := List (List Key) × List D
def memT (k : List Key) (ks : List (List Key)) : Bool := ks.any fun y => decide (y = k)
def putVT : List (List Key) → List D → List Key → D → List D
  | k :: ks, d :: ds, x, y => (if k = x then y else d) :: putVT ks ds x y
  | _, _, _, _ => []
def putKDT (p : DKT) (x : List Key) (y : D) : DKT := if memT x p.1 = true then (p.1, putVT p.1 p.2 x y) else (p.1 ++ [x], p.2 ++ [y])
section
variable {mg : Glob} {N : Prot} {c : List Addr} {H : Hp} {st : Sto} {u : V} {x : D}
def keysD : D → Option (List Key)
  | .tup xs => mapO keyD xs
  | _ => none
theorem RepL.keys : ∀ {k : List Key} {vs : List V}, RepL mg N c H vs (k.map keyV) → vs = k.map kV
  | [], _, .nil => rfl
  | x :: r, _, .cons h t => by
    rw [List.map_cons, RepL.keys t, RepT.key (.inl h) keyD_V]
theorem RepT.dit {ks : List (List Key)} {ds : List D} (h : RepT mg N c H u (.dit ks ds)) : ∃ a kvs, u = .ref a ∧ Rd H a (.dT kvs) ∧ kvs.map (·.1) = ks ∧ RepL mg N c H (kvs.map (·.2)) ds := by
  rcases h with h | ⟨_, _, _, _, e, _⟩
  · cases h with
    | dit h n hn r => exact ⟨_, _, rfl, .inl h, hn, r⟩
    | ditz h n hn r => exact ⟨_, _, rfl, .inr ⟨_, h⟩, hn, r⟩
  · cases e
end
/-! ### d[k] -/
section
variable {mg : Glob} {X : Cx} {a b : Expr} {pos : Pos} {fa fb : SE}
end
/-! ### the frame's own -/
section
variable {mg : Glob} {E : En} {N N' : Prot} {c c' : List Addr} {H H' : Hp} {st st' : Sto} {env : Env} {σ : L2.St}
def frzT (i : Nat) (env : Env) : Env := match env[i]? with
  | some (.ownT ks xs) => env.set i (.val (.dit ks xs))
  | _ => env
theorem Rel.frzT {i : Nat} (R : Rel mg E N c env st σ H) : ∃ N', Rel mg E N' c (LW.frzT i env) st σ H ∧ Sx N c H N' c H := by
  unfold LW.frzT
  split
  · rename_i ks xs he
    obtain ⟨a, kvs, es, ha, hm, r⟩ := R.sl i _ he
    have es := join_some es
    obtain ⟨na, nc, n0⟩ := R.own i _ a he rfl es
    have less : ∀ b, (N b ∧ b ≠ a) → N b := fun b z => z.1
    have tr : Tr N c H (fun b => N b ∧ b ≠ a) c H := Tr.less less
    have il : i < env.length := (List.getElem?_eq_some_iff.mp he).1
    refine ⟨fun b => N b ∧ b ≠ a, ⟨by rw [List.length_set]; exact R.len, fun j s' e => ?_, fun j s' b e ho z => ?_, fun j k s1 s2 b e1 o1 e2 o2 h1 h2 => ?_, R.wd.less less fun b z => ⟨R.wd.cn b z, fun q => nc (q ▸ z)⟩, fun b z => ⟨R.n0 b z, fun q => R.t0 b z (by rw [q]; exact n0)⟩, R.t0, R.base, R.pre, R.newc, fun j cn ns ds b e z => (get_set e).elim (fun q => nomatch q.2) fun q => R.slf j cn ns ds b q.2 z⟩, ⟨fun _ _ e _ => e, fun b z => .inl z.1, fun _ _ z => z, fun _ z => .inl z, fun _ z => z, fun _ _ z => z⟩⟩
    · rcases get_set e with ⟨rfl, rfl⟩ | ⟨ne, e⟩
      · rw [es]
        exact ⟨.ref a, rfl, .dit ha (fun z => z.2 rfl) hm (r.tr tr)⟩
      · have q := R.sl j s' e
        cases s' with
        | un => trivial
        | val d => obtain ⟨v, ev, rv⟩ := q; exact ⟨v, ev, rv.tr tr⟩
        | own ys => obtain ⟨b, us', ev, hb', rv⟩ := q; exact ⟨b, us', ev, hb', rv.tr tr⟩
        | ownI cn ns ds => obtain ⟨b, C, dx, fs, ev, hc, hb', hn, rv⟩ := q; exact ⟨b, C, dx, fs, ev, hc, hb', hn, rv.tr tr⟩
        | ownD ks ds => obtain ⟨b, kvs, ev, hb', hn, rv⟩ := q; exact ⟨b, kvs, ev, hb', hn, rv.tr tr⟩
        | ownT ks ds => obtain ⟨b, kvs, ev, hb', hn, rv⟩ := q; exact ⟨b, kvs, ev, hb', hn, rv.tr tr⟩
    · rcases get_set e with ⟨rfl, rfl⟩ | ⟨ne, e⟩
      · cases ho
      · obtain ⟨z1, z2, z3⟩ := R.own j s' b e ho z
        refine ⟨⟨z1, fun q => ?_⟩, z2, z3⟩
        subst q
        exact ne (R.inj i j _ s' b he rfl e ho es z)
    · rcases get_set e1 with ⟨rfl, rfl⟩ | ⟨n1, e1⟩
      · cases o1
      · rcases get_set e2 with ⟨rfl, rfl⟩ | ⟨n2, e2⟩
        · cases o2
        · exact R.inj j k s1 s2 b e1 o1 e2 o2 h1 h2
  · exact ⟨N, R, Sx.refl⟩
end
def sFrzT (i : Nat) (f : SS) : SS := fun env st => f (frzT i env) st
section
variable {mg : Glob} {X : Cx} {s : Stmt} {f : SS}
end
/-! ### a new dict -/
def RDT (mg : Glob) : Told DKT := fun _ _ H N' c' H' v d => ∃ p kvs, v = .ref p ∧ H p = none ∧ N' p ∧ p ∉ c' ∧ H' p = some (.dT kvs) ∧ kvs.map (·.1) = d.1 ∧ RepL mg N' c' H' (kvs.map (·.2)) d.2
def eDT (f : Fx DKT) : SE := fun env st => (f env st).map fun p => (.dit p.1.1 p.1.2, p.2)
section
variable {mg : Glob} {N N' : Prot} {c c' : List Addr} {H H' : Hp} {st st' : Sto} {v : V} {X : Cx} {e : Expr}
theorem RDT.give {d : DKT} (W : Wd mg N c H st) (x : Ex N c H N' c' H') (W' : Wd mg N' c' H' st') (h : RDT mg N c H N' c' H' v d) : ∃ N'', Ex N c H N'' c' H' ∧ Wd mg N'' c' H' st' ∧ Rep mg N'' c' H' v (.dit d.1 d.2) := by
  obtain ⟨p, kvs, rfl, hp, np, nc, hv, hm, r⟩ := h
  have less : ∀ a, (N' a ∧ a ≠ p) → N' a := fun a z => z.1
  refine ⟨fun a => N' a ∧ a ≠ p, ⟨x.keep, fun a z => x.new a z.1, fun a z => ⟨x.mono a z, fun e => W.trk a z (by rw [e]; exact hp)⟩, x.pre, x.newc⟩, W'.less less fun a z => ⟨W'.cn a z, fun e => nc (e ▸ z)⟩, ?_⟩
  exact .dit hv (fun z => z.2 rfl) hm (r.tr (Tr.less less))
theorem RDT.laid {kvs : List (List Key × V)} {d : DKT} {p : Addr} (W : Wd mg N c H st) (hp : H p = none) (hm : kvs.map (·.1) = d.1) (r : RepL mg N c H (kvs.map (·.2)) d.2) : RDT mg N c H (fun a => N a ∨ a = p) c (upd H p (.dT kvs)) (.ref p) d :=
  ⟨p, kvs, rfl, hp, .inr rfl, W.cnone hp, upd_same, hm, r.tr ((Ex.laidN W hp).tr W)⟩
end
/-- a new empty dict, to have tuples as keys -/
def toT (f : Fx DK) : Fx DKT := fun env st => match f env st with
  | some (([], []), s1) => some (([], []), s1)
  | _ => none
def lT0 : Fx DKT := fun _ st => some (([], []), st)
section
variable {mg : Glob} {X : Cx} {e : Expr} {pos : Pos} {f : Fx DK}
end
/-! ### statements -/
def sOwnT (i : Nat) (f : Fx DKT) : SS := fun env st => match f env st with
  | some (d, s1) => some (.nx (env.set i (.ownT d.1 d.2)), s1)
  | none => none
def sPutT (i : Nat) (fk fe : SE) : SS := fun env st => match fe env st with
  | some (d, s1) => (match fk env s1 with
    | some (y, s2) => (match env[i]? with
      | some (.ownT ks vs) => (match keysD y with
        | some k => if ks.length < 1000000 then some (.nx (env.set i (.ownT (putKDT (ks, vs) k d).1 (putKDT (ks, vs) k d).2)), s2) else none
        | none => none)
      | _ => none)
    | none => none)
  | none => none
section
variable {mg : Glob} {X : Cx} {e ej : Expr} {pos tpos : Pos} {fe fj : SE} {fl : Fx DKT}
end
end LW

/-! LwJc: sorted(d) of a dict whose keys are pairs of a whole number and a text. -/
namespace LW
open PySem L2 PyProof.Rows
/-! ### pairs in order -/
abbrev IS : Type := Int × Str
def leP (p q : IS) : Prop := p.1 < q.1 ∨ (p.1 = q.1 ∧ leS p.2 q.2)
instance {p q : IS} : Decidable (leP p q) := inferInstanceAs (Decidable (p.1 < q.1 ∨ (p.1 = q.1 ∧ leS p.2 q.2)))
/-! ### the sort -/
section
variable {prog : Program} {w : World} {A : Around} {s : Shared}
end
section
variable {X : Cx}
end
section
variable {mg : Glob} {X : Cx} {e : Expr} {es : List Expr} {p pos : Pos} {f : SA}
end
end LW

/-! LwJd: isinstance(d, dict), {k: v}, a, b, c = x, y, dict([]), of dicts whose keys are tuples. -/
namespace LW
open PySem L2 PyProof.Rows
/-! ### isinstance(d, dict) -/
section
variable {mg : Glob} {X : Cx} {e : Expr} {es : List Expr} {p pos : Pos} {f : SA}
end
end LW
/-! ### {k: v} -/
namespace PySem
open Sem (wp)
section
variable {prog : Program} {w : World} {K : Type} [DecidableEq K] {knd : HeapKind prog w K} {A : Around} {E : Value → Shared → Prop} {s : Shared} {env : Env}
end
end PySem
namespace LW
open PySem PySem.Spec L2 PyProof.Rows
def lTd (fk fv : SE) : Fx DKT := fun env st => match fk env st with
  | some (y, s1) => (match keysD y with
    | some k => (match fv env s1 with
      | some (d, s2) => some (([k], [d]), s2)
      | none => none)
    | none => none)
  | none => none
section
variable {mg : Glob} {X : Cx} {pos : Pos} {a b : Expr} {fa fb : SE}
end
/-! ### a, b, c = x, y, dict([]) -/
def sPar3T (i j l : Nat) (fa fb : SE) (fc : Fx DKT) : SS := fun env st => match fa env st with
  | some (x, s1) => match fb env s1 with
    | some (y, s2) => match fc env s2 with
      | some (z, s3) => some (.nx (((env.set i (.val x)).set j (.val y)).set l (.ownT z.1 z.2)), s3)
      | none => none
    | none => none
  | none => none
section
variable {mg : Glob} {X : Cx} {a b c : Expr} {pos : Pos} {fa fb : SE} {fc : Fx DKT}
end
end LW

/-! LwJe: repr of a list with dicts within. -/
namespace LW
open PySem PySem.Spec L2 PyProof.Rows
def keyPy : Key → PyData
  | .inl i => .int i
  | .inr z => .str z
mutual
inductive DpD (H : Hp) : V → PyData → Prop where
  | non : DpD H .non .none
  | bl (b : Bool) : DpD H (.bl b) (.bool b)
  | int (i : Int) : DpD H (.int i) (.int i)
  | str (x : Str) : DpD H (.str x) (.str x)
  | tup {a : Addr} {vs : List V} {ds : List PyData} (h : H a = some (.tup vs)) (r : DpDs H vs ds) : DpD H (.ref a) (.tuple ds)
  | dK {a : Addr} {kvs : List (Key × V)} {ds : List PyData} (h : Rd H a (.dK kvs)) (r : DpDs H (kvs.map (·.2)) ds) : DpD H (.ref a) (.dict ((kvs.map fun kv => keyPy kv.1).zip ds))
  | dT {a : Addr} {kvs : List (List Key × V)} {ds : List PyData} (h : Rd H a (.dT kvs)) (r : DpDs H (kvs.map (·.2)) ds) : DpD H (.ref a) (.dict ((kvs.map fun kv => PyData.tuple (kv.1.map keyPy)).zip ds))
inductive DpDs (H : Hp) : List V → List PyData → Prop where
  | nil : DpDs H [] []
  | cons {v : V} {d : PyData} {vs : List V} {ds : List PyData} (h : DpD H v d) (t : DpDs H vs ds) : DpDs H (v :: vs) (d :: ds)
end
theorem DpDs.length {H : Hp} : ∀ {vs : List V} {ds : List PyData}, DpDs H vs ds → vs.length = ds.length
  | _, _, .nil => rfl
  | _, _, .cons _ t => by rw [List.length_cons, List.length_cons, DpDs.length t]
section
variable {X : Cx} {pins : List (Addr × Obj)} {σ : L2.St} {H : Hp} {s : Shared}
theorem reads_keys {h : Heap} : ∀ {ks : List Key} {us : List Value}, Vals (ks.map kV) us → ReadsAll h us (ks.map keyPy) []
  | [], _, .nil => .nil
  | k :: ks, _, .cons r t => by
    have := reads_keys (h := h) t
    cases k with
    | inl i =>
      obtain ⟨t, rfl⟩ := (show ∃ t, _ = Value.int i t from r)
      exact ReadsAll.cons (.int i t) this
    | inr z =>
      obtain ⟨t, rfl⟩ := (show ∃ t, _ = Value.str z t from r)
      exact ReadsAll.cons (.str z t) this
theorem reads_pairs {P : Program} {w : World} {h : Heap} : ∀ {es : List DictEntry} {vs : List (Key × Value)}, Pairs (mixKind P w) es vs → ReadsAll h (es.map (·.key)) (vs.map fun q => keyPy q.1) [] ∧ es.map (·.val) = vs.map (·.2)
  | _, _, .nil => ⟨.nil, rfl⟩
  | _, _, .cons (e := e) (kv := kv) a b t => by
    obtain ⟨h1, h2⟩ := reads_pairs (h := h) t
    refine ⟨?_, by rw [List.map_cons, List.map_cons, h2, b]⟩
    rw [List.map_cons, List.map_cons]
    have a : keyIs kv.1 e.key = true := a
    rcases keyIs_shape a with ⟨i, t, ei, ek⟩ | ⟨y, t, ey, ek⟩
    · rw [ei, ek]
      exact ReadsAll.cons (.int i t) h1
    · rw [ey, ek]
      exact ReadsAll.cons (.str y t) h1
theorem reads_keysT (I : Inv X pins σ H s) : ∀ {kvs : List (List Key × V)} {xs : List (List Key × Addr × Value)}, KT H kvs xs → ReadsAll s.heap (xs.map fun x => Value.ref x.2.1) (kvs.map fun kv => PyData.tuple (kv.1.map keyPy)) []
  | _, _, .nil => .nil
  | p :: _, q :: _, .cons r t => by
    obtain ⟨e1, e2, _⟩ := r
    obtain ⟨_, its, rv, o, h1, h2, n, h3⟩ := (show ObjOk X.prog X.w H s.heap q.2.1 (.tup (p.1.map kV)) from I.hok _ _ e2)
    exact ReadsAll.cons (as := []) (bs := []) (Reads.tuple h1 h2 h3 (by simpa using reads_keys rv)) (reads_keysT I t)
theorem kv_vals : ∀ {kvs : List (Key × V)} {vs : List (Key × Value)}, KV kvs vs → Vals (kvs.map (·.2)) (vs.map (·.2)) := by
  intro kvs vs r
  unfold KV at r
  induction r with
  | nil => exact .nil
  | cons h t ih => exact .cons h.2 ih
theorem kt_vals : ∀ {kvs : List (List Key × V)} {xs : List (List Key × Addr × Value)}, KT H kvs xs → Vals (kvs.map (·.2)) (xs.map fun x => x.2.2)
  | _, _, .nil => .nil
  | _, _, .cons h t => .cons h.2.2 (kt_vals t)
theorem kv_keys {kvs : List (Key × V)} {vs : List (Key × Value)} (r : KV kvs vs) : (vs.map fun q => keyPy q.1) = kvs.map fun kv => keyPy kv.1 := by
  have := congrArg (List.map keyPy) r.keys
  rw [List.map_map, List.map_map] at this
  exact this.symm
theorem zip_fst {α β : Type} {xs : List α} {ys : List β} (l : xs.length = ys.length) : (xs.zip ys).map (·.1) = xs := List.map_fst_zip (by omega)
theorem zip_snd {α β : Type} {xs : List α} {ys : List β} (l : xs.length = ys.length) : (xs.zip ys).map (·.2) = ys := List.map_snd_zip (by omega)
mutual
theorem DpD.reads (I : Inv X pins σ H s) {v : V} {d : PyData} {u : Value} : DpD H v d → RelV v u → ∃ as, Reads s.heap u d as ∧ sysModules ∉ as
  | .non, r => by
    cases (show u = Value.none from r)
    exact ⟨_, .none, by simp⟩
  | .bl b, r => by
    cases (show u = Value.bool b from r)
    exact ⟨_, .bool b, by simp⟩
  | .int i, r => by
    obtain ⟨t, rfl⟩ := (show ∃ t, u = Value.int i t from r)
    exact ⟨_, .int i t, by simp⟩
  | .str x, r => by
    obtain ⟨t, rfl⟩ := (show ∃ t, u = Value.str x t from r)
    exact ⟨_, .str x t, by simp⟩
  | .tup (a := a) (vs := vs) h q, r => by
    cases (show u = Value.ref a from r)
    obtain ⟨_, its, rv, o, h1, h2, n, h3⟩ := (show ObjOk X.prog X.w H s.heap a (.tup vs) from I.hok _ _ h)
    obtain ⟨as, r1, r2⟩ := DpDs.reads I q rv
    exact ⟨as, Reads.tuple h1 h2 h3 (by simpa using r1), r2⟩
  | .dK (a := a) (kvs := kvs) (ds := ds) h q, r => by
    cases (show u = Value.ref a from r)
    obtain ⟨z, lo, vs, kv, o, es, ep, h1, h2, h3, h4, prs, nd⟩ := dk_rd I.hok h
    obtain ⟨p1, p2⟩ := reads_pairs (h := s.heap) prs
    have rv := kv_vals kv
    rw [← p2] at rv
    obtain ⟨as, r1, r2⟩ := DpDs.reads I q rv
    have l : (kvs.map fun kv => keyPy kv.1).length = ds.length := by rw [List.length_map, ← q.length, List.length_map]
    refine ⟨_, Reads.dict h1 h2.1 h3 (as := []) (bs := as) ?_ ?_, ?_⟩
    · rw [zip_fst l, ← kv_keys kv]
      exact p1
    · rw [zip_snd l]
      exact r1
    · simp only [List.nil_append, List.cons_append, List.mem_cons, not_or]
      exact ⟨fun e => by rw [← e] at lo; simp at lo, r2⟩
  | .dT (a := a) (kvs := kvs) (ds := ds) h q, r => by
    cases (show u = Value.ref a from r)
    obtain ⟨z, lo, xs, kt, o, es, ep, h1, h2, h3, h4, _, nd⟩ := dt_rd I.hok h
    have e1 : es.toList.map (·.key) = xs.map fun x => Value.ref x.2.1 := by rw [h4, List.map_map]; rfl
    have e2 : es.toList.map (·.val) = xs.map fun x => x.2.2 := by rw [h4, List.map_map]; rfl
    have rv := kt_vals kt
    rw [← e2] at rv
    obtain ⟨as, r1, r2⟩ := DpDs.reads I q rv
    have l : (kvs.map fun kv => PyData.tuple (kv.1.map keyPy)).length = ds.length := by rw [List.length_map, ← q.length, List.length_map]
    refine ⟨_, Reads.dict h1 h2.1 h3 (as := []) (bs := as) ?_ ?_, ?_⟩
    · rw [zip_fst l, e1]
      exact reads_keysT I kt
    · rw [zip_snd l]
      exact r1
    · simp only [List.nil_append, List.cons_append, List.mem_cons, not_or]
      exact ⟨fun e => by rw [← e] at lo; simp at lo, r2⟩
theorem DpDs.reads (I : Inv X pins σ H s) {vs : List V} {ds : List PyData} {us : List Value} : DpDs H vs ds → Vals vs us → ∃ as, ReadsAll s.heap us ds as ∧ sysModules ∉ as
  | .nil, .nil => ⟨[], .nil, by simp⟩
  | .cons h t, .cons r q => by
    obtain ⟨as, r1, r2⟩ := DpD.reads I h r
    obtain ⟨bs, r3, r4⟩ := DpDs.reads I t q
    exact ⟨as ++ bs, .cons r1 r3, fun z => (List.mem_append.mp z).elim r2 r4⟩
end
end
end LW
namespace PySem
open Sem (wp)
end PySem
namespace LW
open PySem PySem.Spec L2 PyProof.Rows
/-! ### the mirror -/
section
variable {mg : Glob} {N : Prot} {c : List Addr} {H : Hp} {st : Sto}
end
end LW

/-! LwJf: how mirrors with dicts of tuple keys run; repr of dicts and of great numbers. -/
namespace LW
open PySem L2 PySem.Spec PyProof.Rows
section
variable {env : Env} {st : Sto} {Q : D → Sto → Prop} {QL : List D → Sto → Prop} {QT : DKT → Sto → Prop} {QS : Out → Sto → Prop} {QI : Src → Sto → Prop} {i j l : Nat} {fa fb fe fk : SE} {f : Fx DKT} {fd : Fx DK}
theorem z_DT (h : Ok (f env st) fun d s => Q (.dit d.1 d.2) s) : Ok (eDT f env st) Q := by
  obtain ⟨d, s1, e1, h⟩ := h
  exact ⟨_, s1, by unfold eDT; rw [e1]; rfl, h⟩
theorem z_t0 (h : QT ([], []) st) : Ok (lT0 env st) QT := ⟨_, st, rfl, h⟩
theorem z_toT (h : Ok (fd env st) fun d s => d = ([], []) ∧ QT ([], []) s) : Ok (toT fd env st) QT := by
  obtain ⟨d, s1, e1, rfl, h⟩ := h
  exact ⟨_, s1, by unfold toT; rw [e1], h⟩
theorem z_Td (h : Ok (fk env st) fun y s1 => ∃ k, keysD y = some k ∧ Ok (fe env s1) fun d s2 => QT ([k], [d]) s2) : Ok (lTd fk fe env st) QT := by
  obtain ⟨y, s1, e1, k, e2, d, s2, e3, q⟩ := h
  exact ⟨_, s2, by unfold lTd; rw [e1]; dsimp only; rw [e2]; dsimp only; rw [e3], q⟩
theorem z_ownT (h : Ok (f env st) fun d s => QS (.nx (env.set i (.ownT d.1 d.2))) s) : Ok (sOwnT i f env st) QS := by
  obtain ⟨d, s1, e1, h⟩ := h
  exact ⟨_, s1, by unfold sOwnT; rw [e1], h⟩
theorem z_putT (h : Ok (fe env st) fun d s1 => Ok (fk env s1) fun y s2 => ∃ ks vs k, env[i]? = some (.ownT ks vs) ∧ keysD y = some k ∧ ks.length < 1000000 ∧ QS (.nx (env.set i (.ownT (putKDT (ks, vs) k d).1 (putKDT (ks, vs) k d).2))) s2) : Ok (sPutT i fk fe env st) QS := by
  obtain ⟨d, s1, e1, y, s2, e2, ks, vs, k, e3, e4, l, q⟩ := h
  exact ⟨_, s2, by unfold sPutT; rw [e1]; dsimp only; rw [e2]; dsimp only; rw [e3]; dsimp only; rw [e4]; dsimp only; rw [if_pos l], q⟩
theorem z_frzT {f : SS} (h : Ok (f (frzT i env) st) QS) : Ok (sFrzT i f env st) QS := h
theorem z_par3T (h : Ok (fa env st) fun x s1 => Ok (fb env s1) fun y s2 => Ok (f env s2) fun z s3 => QS (.nx (((env.set i (.val x)).set j (.val y)).set l (.ownT z.1 z.2))) s3) : Ok (sPar3T i j l fa fb f env st) QS := by
  obtain ⟨x, s1, e1, y, s2, e2, z, s3, e3, q⟩ := h
  exact ⟨_, s3, by unfold sPar3T; rw [e1]; dsimp only; rw [e2]; dsimp only; rw [e3], q⟩
end
/-! ### texts of dicts and of great numbers -/
section
variable {s : Sto} {Q : D → Prop} {d : D} {xs : List D} {ps : List PyData} {n : Nat}
end
end LW

/-! LwKa: texts: parts of texts, str(n), int(text), abs, join, startswith; defs as values. -/
namespace LW
open PySem L2 PyProof.Rows
/-! ### parts of texts -/
section
variable {mg : Glob} {X : Cx} {e : Expr} {lo hi : Option Expr} {pos p2 : Pos} {f : SE} {gl gh : SO}
end
/-! ### str(n), int(text), abs(n) -/
section
variable {mg : Glob} {X : Cx} {e : Expr} {es : List Expr} {p pos : Pos} {f : SA}
end
/-! ### sep.join(xs), text.startswith(word, at) -/
def eJoin (fo fa : SE) : SE := fun env st => match fo env st with
  | some (.str a, s1) => (match fa env s1 with
    | some (x, s2) => (match lstS s2 x with
      | some ys => if (ys.map (·.length)).sum + ys.length * a.length ≤ 1000000 then some (.str (Txt.join a ys), s2) else none
      | none => none)
    | none => none)
  | _ => none
def eSw3 (fo : SE) (fs : SA) : SE := fun env st => match fo env st with
  | some (.str a, s1) => (match fs env s1 with
    | some ([.str b, .int i], s2) => some (.bl (Txt.startswith3 a b i), s2)
    | _ => none)
  | _ => none
section
variable {mg : Glob} {X : Cx} {o e : Expr} {es : List Expr} {apos pos : Pos} {fo fa : SE} {fs : SA}
end
/-! ### defs as values -/
section
variable {X : Cx} {k : Nat} {ps : List Str} {g : FM} {x y : Str} {p pos : Pos} {e : Expr} {es : List Expr} {fs : SA} {st : Stmt}
end
end LW

/-! LwKb: how mirrors with texts run. -/
namespace LW
open PySem L2 PyProof.Rows
section
variable {env : Env} {st : Sto} {Q : D → Sto → Prop} {fo fa : SE} {fs : SA} {g : FM} {i : Nat} {nm : Str}
theorem z_join (h : Ok (fo env st) fun d s1 => ∃ a, d = .str a ∧ Ok (fa env s1) fun x s2 => ∃ ys, lstS s2 x = some ys ∧ (ys.map (·.length)).sum + ys.length * a.length ≤ 1000000 ∧ Q (.str (Txt.join a ys)) s2) : Ok (eJoin fo fa env st) Q := by
  obtain ⟨d, s1, e1, a, rfl, x, s2, e2, ys, e3, l, q⟩ := h
  exact ⟨_, s2, by unfold eJoin; rw [e1]; dsimp only; rw [e2]; dsimp only; rw [e3]; dsimp only; rw [if_pos l], q⟩
theorem z_sw3 (h : Ok (fo env st) fun d s1 => ∃ a, d = .str a ∧ Ok (fs env s1) fun ds s2 => ∃ b i, ds = [.str b, .int i] ∧ Q (.bl (Txt.startswith3 a b i)) s2) : Ok (eSw3 fo fs env st) Q := by
  obtain ⟨d, s1, e1, a, rfl, ds, s2, e2, b, i, rfl, q⟩ := h
  exact ⟨_, s2, by unfold eSw3; rw [e1]; dsimp only; rw [e2], q⟩
end
end LW

/-! LwLa: errors of own classes are made: by place, by name, without a value. (The first four proofs are turned from those for calls without names.) -/
namespace PySem
namespace LeafX
open PySem.W PySem.Calls PyProof.Rows PySem.HandSPX
section
variable {M : Model} {A : Around} {E : Value → Shared → Prop} {h : Heap} {g : Array GenState} {d : Drawn} {t : Nat} {os : OsState}
variable {nm q : Str} {C N : Addr} {bs bm bmB : List Value} {hdct : Bool} {sn : List Str} {sub : List Value} {ab : Bool} {col : Option Bool} {dd : Option Addr} {k0 k1 k2 k3 k5 : Option Value} {B newId initId : String} {kw : List (Str × Value)}

theorem check_new_kw (F : ExcBaseFacts B newId initId bmB) (hT : ∀ X : String, bm.contains (.type X) = bmB.contains (.type X)) {rest : List Value} {Q : Unit → Shared → Prop}
    (hC : h.get? C = some (excClassObj nm q C N bs bm hdct sn sub ab col dd k0 k1 k2 k3 k5 newId)) (hq : Q () ⟨h, g, d, t, os⟩) : wpAny M A (checkBuiltinCall newId ⟨.ref C :: rest, kw⟩) Q E ⟨h, g, d, t, os⟩ := by
  have hcont : (Value.ref C :: bm).contains (.type B) = true := by rw [List.contains_cons, hT, F.hasB, Bool.or_true]
  have hstar := F.noStar
  simp only [checkBuiltinCall, F.newKind, F.newSplit, F.newRow]
  repeat (first | refine wpAny_loadPart_at hC ?_ | (refine wpAny_isSubtype_exc hC ?_; rw [hcont]) | refine wpAny_staticBase_exc hC ?_ | refine wpAny_madeBy_exc hC ?_ | simp only [bne_self_eq_false, Bool.false_eq_true, if_false] | wp_step)
  exact hq

end
section
variable {prog : Program} {w : World} {A : Around} {E : Value → Shared → Prop} {R : Result → Shared → Prop} {h : Heap} {g : Array GenState} {d : Drawn} {t : Nat} {os : OsState}
variable {nm q : Str} {C N : Addr} {bs bm bmB : List Value} {hdct : Bool} {sn : List Str} {sub : List Value} {ab : Bool} {col : Option Bool} {dd : Option Addr} {k0 k1 k2 k3 k5 : Option Value} {B newId initId : String} {kw : List (Str × Value)}

theorem new_kw (F : ExcBaseFacts B newId initId bmB) (hT : ∀ X : String, bm.contains (.type X) = bmB.contains (.type X)) {rest : List Value}
    (hC : h.get? C = some (excClassObj nm q C N bs bm hdct sn sub ab col dd k0 k1 k2 k3 k5 newId))
    (hq : R (.ok (.ret (.ref (h.objs.size + 1)))) ⟨(h.push { cls := .type "tuple", data := .seq rest.toArray }).push
      { cls := .ref C, data := .fields #[.ref h.objs.size, .none, .none, .none, .bool false, .none] }, g, d, t, os⟩) (hrest : rest.length ≤ sizeLine) :
    codeAny (model prog w) A (.builtin newId ⟨.ref C :: rest, kw⟩) R ⟨h, g, d, t, os⟩ := by
  have hends := F.ends
  have hcB : (Value.ref C :: bm).contains (.type B) = true := by rw [List.contains_cons, hT, F.hasB, Bool.or_true]
  have hcA : (Value.ref C :: bm).contains (.type "AttributeError") = false := by rw [List.contains_cons, hT, F.noAttr]; rfl
  have hcN : (Value.ref C :: bm).contains (.type "NameError") = false := by rw [List.contains_cons, hT, F.noName]; rfl
  refine codeAny_builtinAt F.entry ?_
  unfold Builtin.«BaseException.__new__»
  refine wpAt_bind ?_
  show wpAt _ _ _ (stack >>= _) _ _ _
  refine wpAt_bind (wpAt_stack fun p below => wpAt_of_wpAny ?_)
  wp_walk
  refine wpAt_of_wpAny ?_
  rw [F.owner]
  repeat (first | with_reducible refine wpAny_madeHere_exc F.canon hC ?_ | with_reducible refine wpAny_loadPart_at hC ?_ | (with_reducible refine wpAny_isSubtype_exc hC ?_; first | rw [hcB] | rw [hcA] | rw [hcN]) | wp_step)
  show R _ _
  rw [Heap.size_push]
  exact hq

theorem type_call_kw (F : ExcBaseFacts B newId initId bmB) (hT : ∀ X : String, bm.contains (.type X) = bmB.contains (.type X)) {rest : List Value} {fI : Addr} {Q : Fin → Shared → Prop}
    (hC : h.get? C = some (excClassObj nm q C N bs bm hdct sn sub ab col dd k0 k1 k2 k3 k5 newId))
    (hi : W.Looks (model prog w) h (typeLookup (.ref C) "__init__") (some (.ref fI))) (hb : ∀ self, W.Looks (model prog w) h (bindSpecial (.ref fI) self) (.ref fI, [self])) (hrest : rest.length ≤ sizeLine)
    (hq : codeAny (model prog w) A (.call (.ref fI) ⟨.ref (h.objs.size + 1) :: rest, kw⟩)
      (fun r s' => match r with | .ok (.ret v) => v = .none ∧ Q (.done (.ret (.ref (h.objs.size + 1)))) s' | .ok _ => False | .error e => E e s')
      ⟨(h.push (W.kdv_tup rest)).push (excO C h.objs.size), g, d, t, os⟩) :
    wpAny (model prog w) A (Builtin.«type.__call__» ⟨.ref C :: rest, kw⟩) Q E ⟨h, g, d, t, os⟩ := by
  repeat (first | with_reducible refine wpAny_loadPart_at hC ?_ | with_reducible refine wpAny_madeBy_exc hC ?_ | wp_step)
  refine codeAny_call_builtin_code (Code.quiet_builtin _ F.quiet) (check_new_kw F hT hC ?_)
  refine new_kw F hT hC ?_ hrest
  show wpAny _ _ _ _ _ _
  have k : ∀ b o, h.get? b = some o → ((h.push (W.kdv_tup rest)).push (excO C h.objs.size)).get? b = some o := fun b o e => Heap.get?_push_of_some _ (Heap.get?_push_of_some _ e)
  have hC₁ := k _ _ hC
  have hget : ((h.push (W.kdv_tup rest)).push (excO C h.objs.size)).get? (h.objs.size + 1) = some (excO C h.objs.size) := by heap_get
  have hcC : (Value.ref C :: bm).contains (.ref C) = true := by simp
  have i1 := hi.keeps k
  have b1 := (hb (.ref (h.objs.size + 1))).keeps k
  unfold isInstance
  repeat (first | with_reducible refine wpAny_loadPart_at hget ?_ | (with_reducible refine wpAny_isSubtype_exc hC₁ ?_; rw [hcC]) | wp_step)
  show wpAny _ _ (typeLookup (.ref C) _) _ _ _
  refine i1.at ?_
  refine wpAny_holding (wpAny_bind (b1.at ?_))
  refine wpAny_bind (wpAny_call (codeAny_mono hq fun r s' z => ?_))
  rcases r with e | (v | _ | _ | _) <;> first | exact z | exact z.elim | skip
  obtain ⟨rfl, z⟩ := z
  first
    | exact wpAny_pure (wpAny_pure z)
    | (wp_walk; exact z)

theorem call_kw (F : ExcBaseFacts B newId initId bmB) (hT : ∀ X : String, bm.contains (.type X) = bmB.contains (.type X)) {rest : List Value} {fI : Addr}
    (hC : h.get? C = some (excClassObj nm q C N bs bm hdct sn sub ab col dd k0 k1 k2 k3 k5 newId))
    (hi : W.Looks (model prog w) h (typeLookup (.ref C) "__init__") (some (.ref fI))) (hb : ∀ self, W.Looks (model prog w) h (bindSpecial (.ref fI) self) (.ref fI, [self])) (hrest : rest.length ≤ sizeLine)
    (hq : codeAny (model prog w) (A.under (.builtin "type.__call__" ⟨.ref C :: rest, kw⟩)) (.call (.ref fI) ⟨.ref (h.objs.size + 1) :: rest, kw⟩) (W.InitBack (h.objs.size + 1) R)
      ⟨(h.push (W.kdv_tup rest)).push (excO C h.objs.size), g, d, t, os⟩) :
    codeAny (model prog w) A (.call (.ref C) ⟨rest, kw⟩) R ⟨h, g, d, t, os⟩ := by
  have f1 := tc_lookup
  have f2 := tc_bind (.ref C)
  have hTy : (⟨h, g, d, t, os⟩ : Shared).TypeIs (.ref C) "type" := ⟨_, hC, rfl⟩
  refine codeAny_of_tree ?_
  show wpAny _ _ (callAny (.ref C) _) _ _ _
  repeat (any_goals (first | assumption | with_reducible refine wpAny_loadPart_at hC ?_ | wp_step))
  refine ⟨rfl, ?_⟩
  refine codeAny_call_builtin_at (Code.quiet_builtin _ (by decide +kernel)) entry_typeCall (wpAny_check_type_call_sub hC (type_call_kw F hT hC hi hb hrest ?_))
  refine codeAny_mono hq fun r s' z => ?_
  rcases r with e | (v | _ | _ | _) <;> exact z

end
/-- the values us and the names kw bind value to v -/
def BindOk (us : List Value) (kw : List (Str × Value)) (v : Value) : Prop := ∀ (x : Addr) (qual : Str) (p : Ps) (cc oT : Addr) (kV doc pm ct : Value) (an : Option Addr) (cda : Addr), ∃ k : Option (Array Value) → Sem (List (Str × Value)),
  bindArgs (fnX "__init__" qual (iA p) (iB p) iS [("__class__", cc)] (.ref oT) kV doc pm an (.ref cda) ct) ⟨.ref x :: us, kw⟩ = seqItems? (.ref oT) >>= k ∧ k (some #[.none]) = pure [(("self" : Str), Value.ref x), (("value" : Str), v)]
theorem bind_pos (v : Value) : BindOk [v] [] v := fun x qual p cc oT kV doc pm ct an cda => ⟨_, by rfl, by rfl⟩
theorem bind_non : BindOk [] [] .none := fun x qual p cc oT kV doc pm ct an cda => ⟨_, by rfl, by rfl⟩
theorem bind_kw (v : Value) : BindOk [] [("value", v)] v := fun x qual p cc oT kV doc pm ct an cda => ⟨_, by rfl, by rfl⟩
section
variable {prog : Program} {w : World} {A : Around} {E : Value → Shared → Prop} {R : Result → Shared → Prop} {s : Shared} {K : Frag} {mg mb : Str → Option Value} {C fI : Addr} {qual : Str}
theorem leaf_initG (T : LeafTxt prog K C fI qual) {x t0 : Addr} {v : Value} {us : List Value} {kw : List (Str × Value)} (hbk : BindOk us kw v) (X : K.In s.heap) (G : s.heap.Ns mainGlobals mg) (hsup : mg "super" = none) (B : s.heap.Ns builtinsNs mb) (hmb : mb "super" = some (.type "super")) (hlim : s.heap.NoLimit) (hx : s.heap.get? x = some (excO C t0)) (hxC : x ≠ C) (hnx : K.lookup x = none) (hroom : A.depth < recursionLimit)
    (hq : ∀ h' tk dx t1, InitEnd s.heap h' x C dx t1 v → R (.ok (.ret .none)) { s with heap := h', toks := tk }) :
    codeAny (model prog w) A (.call (.ref fI) ⟨.ref x :: us, kw⟩) R s := by
  obtain ⟨oc, T0, od, kV, doc, pm, ct, an, osl, p, cc, cda, oT, ot, it, nt, vs, file, tf, ccl, cl, cdd, cld, ccs, csl, ho, hcd, lT, eT, rfl, hcode, hvs, hfile, hcell, hline⟩ := T.fn
  obtain ⟨nm, q, N, bs, bm, sn, sub, ab, col, dd, k0, k1, k2, k3, k5, hC, hbm, hal⟩ := T.cls
  have hcl : clsIn K C = some { name := nm, bases := bs, mro := .ref C :: bm, ns := N, qualname := q, hasDict := true, slotNames := sn, subclasses := sub, abstract := ab, collection := col, hasDel := false } := by unfold clsIn; rw [hC] <;> rfl
  have hcellN : ∀ y ∈ iS.names, y.2 ≠ .cell := by decide
  have hloc : ∀ y ∈ [(("self" : Str), Value.ref x), (("value" : Str), v)], iS.names.lookup y.1 = some .local := fun y hy => by
    rcases List.mem_cons.mp hy with rfl | hy
    · exact (by decide : iS.names.lookup ("self" : Str) = some .local)
    · rcases List.mem_cons.mp hy with rfl | hy
      · exact (by decide : iS.names.lookup ("value" : Str) = some .local)
      · cases hy
  refine ks_codeAny_call_defAt (fd := fnX "__init__" qual (iA p) (iB p) iS [("__class__", cc)] (.ref oT) kV doc pm an (.ref cda) ct) (body := iB p) (binds := [("self", .ref x), ("value", v)]) hroom (X _ _ ho) rfl hlim (codeRec_of X hcd) rfl ?hb hcellN hloc (fun h₁ hn k => ?_) rfl rfl rfl
  case hb =>
    refine L2.BindsTo.of_looks fun M => ?_
    obtain ⟨k, e1, e2⟩ := hbk x qual p cc oT kV doc pm ct an cda
    rw [e1]
    exact L2.looks_items X lT eT (Looks.of_pure e2)
  have X₁ : K.In h₁ := X.keeps k
  have hx₁ := k _ _ hx
  have hC₁ := X₁ _ _ hC
  have I : InstAt h₁ x (excO C t0) C none := ⟨hx₁, rfl, rfl, trivial⟩
  show _root_.PySem.wpAt (model prog w) (A.deeper (ksEnv qual iS s.heap.objs.size fI (.ref cda) cc)) (.func (iB p) (ksEnv qual iS s.heap.objs.size fI (.ref cda) cc)) (execs (iB p) (ksEnv qual iS s.heap.objs.size fI (.ref cda) cc)) _ _ _
  refine ks_wpAt_execs_cons (ks_wpAt_Expr_any (ks_wpAt_MethodCall (he := ev_super _ _ _ _ _ hline) ?_))
  refine ks_wpAt_super_base (f := fI) (cc := cda) rfl rfl rfl rfl (X₁ _ _ ho) rfl rfl rfl (X₁ _ _ hcode) rfl hvs hfile T.top ?_
  refine ks_loadName_global rfl rfl (loadGlobal_builtin (mg := mg) (mb := mb) (G.keeps k) hsup (B.keeps k) hmb ⟨rfl, ?_⟩)
  refine wpAny_loadName_free rfl rfl rfl ⟨_, X₁ _ _ hcell, rfl⟩ ?_
  refine wpAny_loadName_local (v := .ref x) rfl rfl hn rfl ?_
  refine ks_wpAny_isType_cls hC₁ rfl ⟨rfl, ?_⟩
  refine ks_wpAny_call_super hC₁ rfl hx₁ rfl (fun c e => by cases e) (looks_mroIn X₁ T.mro) (fun h2 e2 k2 => ?_)
  have X₂ : K.In h2 := X₁.keeps k2
  have hx₂ := k2 _ _ hx₁
  have hC₂ := X₂ _ _ hC
  have I₂ : InstAt h2 x (excO C t0) C none := ⟨hx₂, rfl, rfl, trivial⟩
  refine kxs_getMethod (l := bm) kxs_ValueError e2 (looks_opaque X₂ T.opq) (l₀ := .ref C :: bm) (fun A Q E s k q => wpAny_bind ((looks_clsIn X₂ hcl) A _ E s k (wpAny_pure q))) (by simp) X₂ hal (I₂.type.andThen (looks_subIn X₂ T.vaC)) hxC rfl ?_
  have k3 : ∀ b o, h2.get? b = some o → (h2.push (kxs_mw "ValueError.__init__" x)).get? b = some o := fun b o e => Heap.get?_push_of_some _ e
  have hu : (h2.push (kxs_mw "ValueError.__init__" x)).get? h2.objs.size = some (kxs_mw "ValueError.__init__" x) := Heap.get?_push_at rfl rfl
  have hC₃ := k3 _ _ hC₂
  have hx₃ := k3 _ _ hx₂
  refine kxs_callWith (i := "ValueError.__init__") (x := x) rfl (evalArgs_empty ⟨hu, ?_⟩)
  refine wpAny_call (codeAny_of_tree ?_)
  show wpAny _ (A.deeper _).in1 (callAny (.ref h2.objs.size) ⟨[], []⟩) _ _ _
  simp only [callAny]
  refine wpAny_bind (wpAny_load hu ?_)
  simp only [kxs_mw, show (Value.type "method-wrapper" == Value.type "method" || Value.type "method-wrapper" == Value.type "builtin_function_or_method" || Value.type "method-wrapper" == Value.type "method-wrapper") = true by decide, if_true]
  refine KFB.if_so (by decide) ?_
  refine wpAny_bind (check_bound_init F.excBase_ValueError.toExcCallFacts hC₃ hx₃ rfl ?_)
  refine wpAny_bind (wpAny_pure (wpAny_pure ?_))
  refine ⟨plainId_quiet F.excBase_ValueError.init.plain _, codeAny_builtin F.excBase_ValueError.initEntry ?_⟩
  refine exc_init_tree (cls := .ref C) (t0 := t0) (dv := none) (c2 := .none) (c3 := .none) (b4 := .bool false) hx₃ (Nat.zero_le _) fun h4 k4 hx₄ ht₄ => ?_
  have kk : ∀ b o, b ≠ x → h₁.get? b = some o → h4.get? b = some o := fun b o hb e => k4 b o hb (k3 _ _ (k2 _ _ e))
  have xL : s.heap.objs.size ≠ x := Nat.ne_of_gt (Heap.lt_size hx)
  have hn₄ : h4.Ns s.heap.objs.size (fun y => List.lookup y (List.reverse [(("self" : Str), Value.ref x), (("value" : Str), v)])) := by
    obtain ⟨oL, es, ep, hL, r⟩ := hn
    exact ⟨oL, es, ep, kk _ _ xL hL, r⟩
  have X₄ : K.In h4 := fun a o e => k4 a o (fun z => by rw [z, hnx] at e; cases e) (k3 _ _ (X₂ a o e))
  show _root_.PySem.wpAt (model prog w) (A.deeper (ksEnv qual iS s.heap.objs.size fI (.ref cda) cc)) (.func (iB p) (ksEnv qual iS s.heap.objs.size fI (.ref cda) cc)) (execs [.Assign [.Attribute (.Name "self" p.b1) "value" p.b2] (.Name "value" p.b3) p.b4] (ksEnv qual iS s.heap.objs.size fI (.ref cda) cc)) _ _ _
  refine wpAt_of_wpAny (wpAny_execs_cons (plainObj_wpAny_Assign_Attribute ?_))
  refine ldC (v := v) hn₄ rfl (ldC (v := .ref x) hn₄ rfl ?_ rfl rfl) rfl rfl
  refine set_plain X₄ (ox := excO C (h2.push (kxs_mw "ValueError.__init__" x)).objs.size) (od := none) ⟨hx₄, rfl, rfl, trivial⟩ T.sa ?_
  refine exc_osa X₄ hx₄ hcl (show refsVE (.ref C :: bm) = true from hbm) rfl T.noN (fun h₅ tk₅ dx k₅ dn dne hx₅ hn₅ => ?_)
  show wpAny _ _ (execs [] _) _ _ _
  have z : s.heap.objs.size < h4.objs.size := hn₄.lt
  exact wpAny_execs_nil (hq h₅ tk₅ dx _ ⟨fun b o hb e => k₅ b o hb (kk b o hb (k b o e)), hx₅, Nat.le_of_lt (Nat.lt_of_lt_of_le z dn), dne, hn₅⟩)
theorem leaf_madeG (T : LeafTxt prog K C fI qual) {v : Value} {us : List Value} {kw : List (Str × Value)} (hbk : BindOk us kw v) (hus : us.length ≤ sizeLine) (X : K.In s.heap) (G : s.heap.Ns mainGlobals mg) (hsup : mg "super" = none) (B : s.heap.Ns builtinsNs mb) (hmb : mb "super" = some (.type "super")) (hlim : s.heap.NoLimit) (hroom : A.depth + 1 < recursionLimit)
    (hq : ∀ h' tk e d, OwnMade s.heap h' e C d v → R (.ok (.ret (.ref e))) { s with heap := h', toks := tk }) :
    codeAny (model prog w) A (.call (.ref C) ⟨us, kw⟩) R s := by
  obtain ⟨nm, q, N, bs, bm, sn, sub, ab, col, dd, k0, k1, k2, k3, k5, hC, hbm, hal⟩ := T.cls
  obtain ⟨hp, g, dr, tk, os⟩ := s
  have k : ∀ b o, hp.get? b = some o → ((hp.push (kdv_tup us)).push (excO C hp.objs.size)).get? b = some o := fun b o e => Heap.get?_push_of_some _ (Heap.get?_push_of_some _ e)
  have hget : ((hp.push (kdv_tup us)).push (excO C hp.objs.size)).get? (hp.objs.size + 1) = some (excO C hp.objs.size) := by heap_get
  have hnx : K.lookup (hp.objs.size + 1) = none := by
    cases e : K.lookup (hp.objs.size + 1) with
    | none => rfl
    | some o =>
      have z : hp.get? (hp.objs.size + 1) = some o := X _ _ e
      exact absurd (Nat.lt_of_succ_lt (Heap.lt_size z)) (Nat.lt_irrefl _)
  have hxC : hp.objs.size + 1 ≠ C := fun z => by
    have y : hp.get? C = some _ := X _ _ hC
    have y' := Heap.lt_size y
    rw [← z] at y'
    exact absurd (Nat.lt_of_succ_lt y') (Nat.lt_irrefl _)
  refine call_kw F.excBase_ValueError (fun X => refsVE_contains X bm hbm) (X _ _ hC) (looks_findIn X T.iC) (fun self => bind_fn X self T.tC) hus ?_
  refine leaf_initG (s := ⟨(hp.push (kdv_tup us)).push (excO C hp.objs.size), g, dr, tk, os⟩) T hbk (X.keeps k) (G.keeps k) hsup (B.keeps k) hmb (hlim.keeps k) hget hxC hnx ?_ fun h' tk' dx t1 ⟨k', hx, dn, dne, hns⟩ => ?_
  · show A.depth + 1 < recursionLimit
    exact hroom
  · have old : ∀ b o, hp.get? b = some o → h'.get? b = some o := fun b o e => k' b o (Nat.ne_of_lt (Nat.lt_succ_of_lt (Heap.lt_size e))) (k b o e)
    have z : hp.objs.size + 1 + 1 ≤ dx := by
      first
        | (simpa only [Heap.size_push] using dn)
        | exact dn
        | (have q := dn; rw [Heap.size_push, Heap.size_push] at q; exact q)
    exact ⟨rfl, hq h' tk' (hp.objs.size + 1) dx ⟨old, Nat.le_succ _, ⟨_, _, hx, rfl, rfl, rfl, rfl⟩, Nat.le_trans (Nat.le_trans (Nat.le_succ _) (Nat.le_succ _)) z, dne, hns⟩⟩
end
end LeafX
end PySem

/-! LwLb: errors as data: made, their value, isinstance of them. (The first three proofs are turned from those for an error without a dict.) -/
namespace PySem.W
open PySem PySem.Spec PySem.Calls PyProof.Rows
section
variable {prog : Program} {w : World} {A : Around} {E : Value → Shared → Prop} {s : Shared} {K : Frag} {x D : Addr} {ox : Obj}
theorem findObj_dataO {C : Addr} {od : Option Obj} {name : Str} {a g : Value} (hc : (clsIn K C).isSome = true) (ha : findIn K (.ref C) name = some (some a)) (hg : specialIn K a "__get__" = some (some g)) (ht : takesIn K a = some true) : findObj K C od name = some (.bind g a) := by
  obtain ⟨cd, hc⟩ := Option.isSome_iff_exists.mp hc
  unfold findObj
  rw [hc, Option.bind_some, ha, Option.bind_some]
  simp [hg, ht]
theorem kin_classO {od : Option Obj} {Q : Option Value → Shared → Prop} (hga : findIn K (.ref D) "__getattribute__" = some (some (.builtin "BaseException.__getattribute__"))) (hgt : findIn K (.ref D) "__getattr__" = some none) (hsub : subIn K (.ref D) (.type "BaseException") = some true)
    (hdct : hasDictIn K D = true) (ha : findIn K (.ref D) "__class__" = some (some (.builtin "object.__class__")))
    (hn : specialIn K (.builtin "object.__class__") "__get__" = some (some (.builtin "getset_descriptor.__get__"))) (htk : takesIn K (.builtin "object.__class__") = some true) (hm : mroIn K D (.type "object") = some true)
    (X : K.In s.heap) (I : InstAt s.heap x ox D od) (h : Q (some (.ref D)) { s with toks := s.toks + 1 }) : wpAny (model prog w) A (getAttr? (.ref x) "__class__") Q E s := by
  have hf : findObj K D od "__class__" = some (.bind (.builtin "getset_descriptor.__get__") (.builtin "object.__class__")) := findObj_dataO (by obtain ⟨cd, hc, _⟩ := any_some hdct; rw [hc]; rfl) ha hn htk
  obtain ⟨hp, g, d, t, os⟩ := s
  have L0 := I.type (M := model prog w)
  have L1 := looks_findIn (M := model prog w) X hga
  have L2 := looks_findIn (M := model prog w) X hgt
  have L3 := looks_find (M := model prog w) X I hf
  have sub : Looks (model prog w) hp (isInstance (.ref x) (.type "BaseException")) true := L0.andThen (looks_subIn X hsub)
  have hx0 : (false && onTheHeap (Value.builtin "BaseException.__getattribute__")) = false := rfl
  have hx2 : (Value.builtin "BaseException.__getattribute__" == Value.builtin "object.__getattribute__") = false := by decide +kernel
  have hx1 : (onTheHeap (Value.ref D) && Value.builtin "BaseException.__getattribute__" == Value.builtin "object.__getattribute__") = false := by rw [hx2]; rfl
  unfold getAttr? getAttrBy? getAttrBy
  refine wpAny_bind (wpAny_mkText (wpAny_bind (wpAny_attempt (wpAny_holding (wpAny_bind (L0.at (wpAny_bind (L1.at ?_))))))))
  show wpAny _ _ (if (onTheHeap (Value.ref D) && Value.builtin "BaseException.__getattribute__" == Value.builtin "object.__getattribute__") = true then _ else _) _ _ _
  rw [hx1, if_neg Bool.false_ne_true]
  unfold getAttrByItsOwn hookBefore
  refine wpAny_bind ?_
  rw [if_pos (show onTheHeap (Value.ref D) = true from rfl)]
  refine L2.at ?_
  refine wpAny_bind (wpAny_attempt (wpAny_holding ?_))
  unfold callGetattribute
  rw [hx0, if_neg Bool.false_ne_true]
  unfold boundAndCalled
  rw [PySem.F.excAttr_ValueError.ga.bind (.ref x)]
  refine wpAny_bind (wpAny_pure ?_)
  show wpAny _ _ (call (.builtin "BaseException.__getattribute__") [.ref x, .str "__class__" t]) _ _ _
  refine wpAny_call (codeAny_call_builtin PySem.F.excAttr_ValueError.ga.plain PySem.F.entry_bexc_ga ?_)
  refine @check_slot (model prog w) _ _ ⟨hp, g, d, t + 1, os⟩ "BaseException.__getattribute__" "BaseException" "__getattribute__" (.ref x) [.str "__class__" t] [] _ (by decide +kernel) (by decide +kernel) sub (PySem.F.args_bexc_ga (.ref x) (.str "__class__" t)) ?_
  unfold Builtin.«object.__getattribute__»
  refine wpAny_bind (wpAny_of_eq (a := ((Value.ref x : Value), [Value.str "__class__" t])) (by first | rfl | (simp only [slotArgs]; rfl)) ?_)
  refine wpAny_bind (wpAny_pure (wpAny_bind (L0.at (wpAny_bind (L3.at ?_)))))
  show wpAny _ _ (holding [Value.builtin "object.__class__"] (call (.builtin "getset_descriptor.__get__") [.builtin "object.__class__", .ref x, .ref D]) >>= ret) _ _ _
  refine wpAny_bind (wpAny_holding (wpAny_call (class_get (s := ⟨hp, g, d, t + 1, os⟩) (ox := ox) (od := od) X I hm ?_)))
  refine wpAny_pure ?_
  show wpAny _ _ (handedOut (.ref D)) _ _ _
  rw [handedOut_of (v := .ref D) rfl]
  first
    | exact wpAny_pure (wpAny_pure h)
    | exact wpAny_pure h
    | exact wpAny_pure (wpAny_bind (wpAny_pure (wpAny_pure h)))
theorem kitx_excO {od : Option Obj} (hga : findIn K (.ref D) "__getattribute__" = some (some (.builtin "BaseException.__getattribute__"))) (hgt : findIn K (.ref D) "__getattr__" = some none) (hsub : subIn K (.ref D) (.type "BaseException") = some true) (hdct : hasDictIn K D = true) (ha : findIn K (.ref D) "__class__" = some (some (.builtin "object.__class__")))
    (hn : specialIn K (.builtin "object.__class__") "__get__" = some (some (.builtin "getset_descriptor.__get__"))) (htk : takesIn K (.builtin "object.__class__") = some true) (hm : mroIn K D (.type "object") = some true) :
    KitX K (.ref x) (.ref D) (fun h => InstAt h x ox D od) where
  ty := fun _ _ _ I => I.type
  it := fun _ _ X _ => by
    obtain ⟨cdD, hcD, _⟩ := any_some hdct
    unfold clsIn at hcD
    split at hcD
    · rename_i c' d' cd' sl' ho
      intro A' Q' E' s' k q
      unfold isType loadHead
      exact wpAny_bind (wpAny_loadPart (k _ _ (X _ _ ho)) (wpAny_pure q))
    · cases hcD
  ne := fun h tp dd its n sl X htp => by
    obtain ⟨cdD, hcD, _⟩ := any_some hdct
    refine Bool.eq_false_iff.mpr fun q => ?_
    have e : D = tp := Value.ref.inj (beq_iff_eq.mp q)
    subst e
    unfold clsIn at hcD
    split at hcD
    · rename_i c' d' cd' sl' ho
      have z := (X _ _ ho).symm.trans htp
      cases z
    · cases hcD
  ca := fun X I k => kin_classO hga hgt hsub hdct ha hn htk hm X I k
end
end PySem.W
namespace LW
open PySem L2 PyProof.Rows
theorem ero_ok {P : Program} {w : World} {H : Hp} {h : Heap} {C a : Addr} {d : Option Addr} {oe : Obj} {vs : Array Value} (e : h.get? a = some oe) (z : Zc (.ref C) d oe) (q : oe.data = .fields vs) : ObjOk P w H h a (ErO C d a) :=
  ⟨⟨oe, vs, e, z, q⟩, ⟨oe, e⟩, fun _ _ ⟨o, v, q, r⟩ k => ⟨o, v, k o q, r⟩⟩
theorem ero_at {P : Program} {w : World} {H : Hp} {h : Heap} {C a : Addr} {d : Option Addr} (hok : HOk P w H h) (he : H a = some (ErO C d a)) : ∃ (oe : Obj) (vs : Array Value), h.get? a = some oe ∧ Zc (.ref C) d oe ∧ oe.data = .fields vs :=
  (show ObjOk P w H h a (ErO C d a) from hok a _ he).1
/-- an error of the class at C with the value that t tells -/
def tMkV (C : Addr) (t : TE) : TE := fun σ H Q => t σ H fun v H1 => ∀ a d, H1 a = none → H1 d = none → a ≠ d → Q (.ref a) (upd (upd H1 d (.xd [(("value" : Str), v)])) a (ErO C (some d) a))
section
variable {X : Cx} {C fI : Addr} {qual x : Str} {pins : List (Addr × Obj)} {σ : L2.St} {H1 : Hp} {s : Shared} {us : List Value} {kw : List (Str × Value)} {u : Value} {v : V} {Q : VK} {k : Nat}
theorem run_leaf (T : PySem.LeafX.LeafTxt X.prog X.K C fI qual) (hsup : X.mg "super" = none) (hr : Room k X.A) (I1 : Inv X pins σ H1 s) (hbk : PySem.LeafX.BindOk us kw u) (hus : us.length ≤ 1) (rv : RelV v u)
    (q1 : ∀ a d, H1 a = none → H1 d = none → a ≠ d → Q (.ref a) (upd (upd H1 d (.xd [(("value" : Str), v)])) a (ErO C (some d) a))) : wpAny (model X.prog X.w) X.A (call (.ref C) us kw) (EP X pins σ Q) X.xe s := by
  have hlim := I1.nolimit
  obtain ⟨mb, hb1, hb2⟩ := I1.mod.blt
  have G1 := I1.mod.glob.keeps I1.bk
  have B1 := hb1.keeps I1.bk
  have hmb : mb "super" = some (.type "super") := (hb2 _ (by decide)).trans (by decide +kernel)
  obtain ⟨hp, g, dr, tk, os⟩ := s
  refine wpAny_call (PySem.LeafX.leaf_madeG T hbk (by rw [sizeLine_eq]; omega) I1.kIn G1 hsup B1 hmb hlim (by have := hr.dp; omega) fun h' tk' e d M => ?_)
  show EP X pins σ Q (.ref e) ⟨h', g, dr, tk', os⟩
  obtain ⟨oe, fv, hoe, hc, hd, hdat, h1⟩ := M.obj
  have hns := M.ns
  obtain ⟨G', g1, g2⟩ := restrict h' fun b => decide (b ≠ e)
  have gk : ∀ b, b ≠ e → G'.get? b = h'.get? b := fun b hb => g1 b (decide_eq_true hb)
  have ge : G'.get? e = none := g2 e (by simp)
  have old : ∀ b o, hp.get? b = some o → G'.get? b = some o := fun b o q => (gk b (Nat.ne_of_lt (Nat.lt_of_lt_of_le (Heap.lt_size q) M.new))).trans (M.keep b o q)
  have ob : ObjOk X.prog X.w (upd H1 d (.xd [(("value" : Str), v)])) G' d (.xd [(("value" : Str), v)]) :=
    ⟨_, hns.at (fun o q => (gk d M.dne).trans q), fun f => relO_leaf rv f⟩
  have J : Inv X pins σ (upd H1 d (.xd [(("value" : Str), v)])) ⟨G', g, dr, tk', os⟩ := I1.laid (t' := tk') old M.dbig ob
  have ne : upd H1 d (.xd [(("value" : Str), v)]) e = none := by
    rw [upd_ne (Ne.symm M.dne)]
    exact I1.hok.fresh M.new
  have J2 := J.laidN (t' := tk') (h' := h') (a := e) (o := ErO C (some d) e) (fun b o q => by
    by_cases hb : b = e
    · have q' : G'.get? b = some o := q
      rw [hb, ge] at q'; cases q'
    · exact (gk b hb).symm.trans q) ge ne (ero_ok hoe ⟨hc, hd⟩ hdat)
  exact ⟨.ref e, _, J2, rfl, q1 e d (I1.hok.fresh M.new) (I1.hok.fresh M.dbig) (Ne.symm M.dne)⟩
/-- C(e) -/
theorem pe_leaf {e : Expr} {ta : TE} {p pos : Pos} (T : PySem.LeafX.LeafTxt X.prog X.K C fI qual) (gC : X.mg x = some (.ref C)) (kC : PySem.W.keepIn X.K (.ref C) = true) (hsup : X.mg "super" = none) (hr : Room k X.A) (he : PE X e ta) (hg : Gl X x := by rfl) (hdb : (x == ("__debug__" : Str)) = false := by decide)
    (hs : starEach [e] X.env = (false, eval e X.env) :: starEach [] X.env := by rfl) : PE X (.Call (.Name x p) [e] [] pos) (tMkV C ta) := by
  refine ⟨fun pins s σ H Q I h => ?_⟩
  refine wpAny_Call_Name_kw (ld_glob I hg gC ?_ hdb)
  refine PySem.W.callWith_K (h₀ := X.base) I.ok.mod.kin kC ?_ hs (by rfl)
  rw [hs]
  show wpAny _ _ (spliced ((false, eval e X.env) :: backTo pos (starEach [] X.env))) _ _ s
  refine Calls.spliced_cons (thn (he.run pins s σ H _ I h) fun u s1 ⟨v, H1, I1, r1, q1⟩ => ?_)
  refine Calls.spliced_nil ⟨I1.kIn, ?_⟩
  exact run_leaf T hsup hr I1 (PySem.LeafX.bind_pos u) (Nat.le_refl _) r1 q1
/-- C(value=e) -/
theorem pe_leafK {e : Expr} {ta : TE} {p pos kp : Pos} (T : PySem.LeafX.LeafTxt X.prog X.K C fI qual) (gC : X.mg x = some (.ref C)) (kC : PySem.W.keepIn X.K (.ref C) = true) (hsup : X.mg "super" = none) (hr : Room k X.A) (he : PE X e ta) (hg : Gl X x := by rfl) (hdb : (x == ("__debug__" : Str)) = false := by decide)
    (hpl : ((backTo pos (starEach [] X.env)).any (·.1) || (backToKw pos (keywordEach [⟨some "value", e, kp⟩] X.env)).any (·.1.isNone)) = false := by rfl) : PE X (.Call (.Name x p) [] [⟨some "value", e, kp⟩] pos) (tMkV C ta) := by
  refine ⟨fun pins s σ H Q I h => ?_⟩
  refine wpAny_Call_Name_kw (ld_glob I hg gC ?_ hdb)
  refine PySem.W.callWith_KW0 (h₀ := X.base) I.ok.mod.kin kC rfl ?_ hpl
  refine kws_cons (thn (he.run pins s σ H _ I h) fun u s1 ⟨v, H1, I1, r1, q1⟩ => ?_)
  refine kws_nil ⟨I1.kIn, ?_⟩
  exact run_leaf T hsup hr I1 (PySem.LeafX.bind_kw u) (Nat.zero_le _) r1 q1
/-- C() -/
theorem pe_leaf0 {p pos : Pos} (T : PySem.LeafX.LeafTxt X.prog X.K C fI qual) (gC : X.mg x = some (.ref C)) (kC : PySem.W.keepIn X.K (.ref C) = true) (hsup : X.mg "super" = none) (hr : Room k X.A) (hg : Gl X x := by rfl) (hdb : (x == ("__debug__" : Str)) = false := by decide) :
    PE X (.Call (.Name x p) [] [] pos) (tMkV C fun σ H Q => Q .non H) := by
  refine ⟨fun pins s σ H Q I h => ?_⟩
  refine wpAny_Call_Name_kw (ld_glob I hg gC (PySem.W.callWith_K0 (first := []) I.kIn kC ?_) hdb)
  exact run_leaf (v := .non) T hsup hr I PySem.LeafX.bind_non (Nat.zero_le _) rfl h
/-- C() of a class without an own __init__ -/
theorem pe_bare {p pos : Pos} (q : PySem.W.excIn X.K C HandSPX.veTail "ValueError.__new__" = true) (gC : X.mg x = some (.ref C)) (kC : PySem.W.keepIn X.K (.ref C) = true) (hg : Gl X x := by rfl) (hdb : (x == ("__debug__" : Str)) = false := by decide) :
    PE X (.Call (.Name x p) [] [] pos) (fun σ H Q => ∀ a, H a = none → Q (.ref a) (upd H a (ErO C none a))) := by
  refine ⟨fun pins s σ H Q I h => ?_⟩
  refine wpAny_Call_Name_kw (ld_glob I hg gC (PySem.W.callWith_K0 (first := []) I.kIn kC ?_) hdb)
  obtain ⟨bm, N, nm, qn, bs, hdct, sn, sub, ab, col, dd, k0, k1, k2, k3, k5, mN, hC, hN, hni, T⟩ := exc_obj I.kIn q
  refine wpAny_call_exc_subT PySem.F.excBase_ValueError T hC hN hni (fun h' a hm => ?_) (by show 0 ≤ sizeLine; exact Nat.zero_le _)
  have hn : H a = none := I.hok.gone hm.new
  obtain ⟨t, ht, _, _⟩ := hm.there
  exact ⟨.ref a, upd H a (ErO C none a), I.laidN hm.keeps hm.new hn (ero_ok ht ⟨rfl, rfl⟩ rfl), rfl, h a hn⟩
end
end LW

/-! LwLc: errors as data, as mirrors see them; xs.pop(); repr of any thing. -/
namespace LW
open PySem L2 PyProof.Rows
section
variable {mg : Glob} {N : Prot} {c : List Addr} {H : Hp} {st : Sto} {v : V} {x : D} {a d C : Addr} {cn : Str}
theorem err_laid (W : Wd mg N c H st) (ha : H a = none) (hd : H d = none) (ne : a ≠ d) (hc : mg.mg cn = some (.ref C)) (r : Rep mg N c H v x) :
    Ex N c H N c (upd (upd H d (.xd [(("value" : Str), v)])) a (ErO C (some d) a)) ∧ Wd mg N c (upd (upd H d (.xd [(("value" : Str), v)])) a (ErO C (some d) a)) st ∧ Rep mg N c (upd (upd H d (.xd [(("value" : Str), v)])) a (ErO C (some d) a)) (.ref a) (.err cn [x]) := by
  have ha' : upd H d (.xd [(("value" : Str), v)]) a = none := by rw [upd_ne ne]; exact ha
  have x1 := Ex.laid (o := HO.xd [(("value" : Str), v)]) W hd
  have W1 := W.laid (o := HO.xd [(("value" : Str), v)]) hd
  have x2 := Ex.laid (o := ErO C (some d) a) W1 ha'
  refine ⟨x1.trans x2 W, W1.laid ha', .err1 hc upd_same (W.nsome ha) ?_ (W.nsome hd) ((r.tr (x1.tr W)).tr (x2.tr W1))⟩
  rw [upd_ne (Ne.symm ne)]
  exact upd_same
theorem err_laid0 (W : Wd mg N c H st) (ha : H a = none) (hc : mg.mg cn = some (.ref C)) : Rep mg N c (upd H a (ErO C none a)) (.ref a) (.err cn []) := .err0 hc upd_same (W.nsome ha)
end
/-- C(e); C(); C() of a class without an own __init__; e.value -/
def eErr (cn : Str) (f : SE) : SE := fun env st => match f env st with
  | some (d, s1) => some (.err cn [d], s1)
  | none => none
def eErr0 (cn : Str) : SE := fun _ st => some (.err cn [.non], st)
def eErrB (cn : Str) : SE := fun _ st => some (.err cn [], st)
def eErrV (es : List Str) (f : SE) : SE := fun env st => match f env st with
  | some (.err cn [d], s1) => if cn ∈ es then some (d, s1) else none
  | _ => none
/-- the classes es: their instances' values can be read -/
def EvF (K : PySem.W.Frag) (mg : Str → Option Value) (es : List Str) : Prop := ∀ cn, cn ∈ es → ∃ C, mg cn = some (.ref C) ∧ XfC K C ∧ PySem.W.findIn K (.ref C) "value" = some none
theorem ev_nil {K : PySem.W.Frag} {mg : Str → Option Value} : EvF K mg [] := fun _ h => nomatch h
theorem ev_cons {P : Program} {K : PySem.W.Frag} {mg : Str → Option Value} {cn : Str} {es : List Str} (h : LF P K mg cn) (t : EvF K mg es) : EvF K mg (cn :: es) := fun n hn => by
  rcases List.mem_cons.mp hn with rfl | hn
  · obtain ⟨C, fI, qual, h1, h2, h3, h4, h5⟩ := h
    exact ⟨C, h1, h4, h5⟩
  · exact t n hn
section
variable {mg : Glob} {X : Cx} {e : Expr} {f : SE} {p pos kp : Pos} {cn : Str} {k : Nat} {es : List Str}
theorem r_err {C : Addr} (hC : mg.mg cn = some (.ref C)) {σ : L2.St} {H : Hp} {Q : VK} (h : tE mg (eErr cn f) σ H Q) : tMkV C (tE mg f) σ H Q := by
  obtain ⟨E, N, c, env, st, d, st', R, q, kk⟩ := h
  unfold eErr at q
  split at q
  · rename_i d0 s1 q1
    cases q
    refine ⟨E, N, c, env, st, d0, _, R, q1, fun v N' c' H' x W r a dx ha hd ne => ?_⟩
    obtain ⟨x2, W2, r2⟩ := err_laid W ha hd ne hC r
    exact kk _ _ _ _ (x.trans x2 R.wd) W2 r2
  · cases q
theorem d_err (T : LF X.prog X.K X.mg cn) (hsup : X.mg "super" = none) (hr : Room k X.A) (he : PE X e (tE mg f)) (hM : X.mg = mg.mg := by rfl) (hg : Gl X cn := by rfl) (hdb : (cn == ("__debug__" : Str)) = false := by decide)
    (hs : starEach [e] X.env = (false, eval e X.env) :: starEach [] X.env := by rfl) : PE X (.Call (.Name cn p) [e] [] pos) (tE mg (eErr cn f)) := by
  obtain ⟨C, fI, qual, h1, h2, h3, h4, h5⟩ := T
  exact pe_weak (pe_leaf h3 h1 h2 hsup hr he hg hdb hs) fun _ _ _ h => r_err (hM ▸ h1) h
theorem d_errK (T : LF X.prog X.K X.mg cn) (hsup : X.mg "super" = none) (hr : Room k X.A) (he : PE X e (tE mg f)) (hM : X.mg = mg.mg := by rfl) (hg : Gl X cn := by rfl) (hdb : (cn == ("__debug__" : Str)) = false := by decide)
    (hpl : ((backTo pos (starEach [] X.env)).any (·.1) || (backToKw pos (keywordEach [⟨some "value", e, kp⟩] X.env)).any (·.1.isNone)) = false := by rfl) : PE X (.Call (.Name cn p) [] [⟨some "value", e, kp⟩] pos) (tE mg (eErr cn f)) := by
  obtain ⟨C, fI, qual, h1, h2, h3, h4, h5⟩ := T
  exact pe_weak (pe_leafK h3 h1 h2 hsup hr he hg hdb hpl) fun _ _ _ h => r_err (hM ▸ h1) h
theorem d_err0 (T : LF X.prog X.K X.mg cn) (hsup : X.mg "super" = none) (hr : Room k X.A) (hM : X.mg = mg.mg := by rfl) (hg : Gl X cn := by rfl) (hdb : (cn == ("__debug__" : Str)) = false := by decide) : PE X (.Call (.Name cn p) [] [] pos) (tE mg (eErr0 cn)) := by
  obtain ⟨C, fI, qual, h1, h2, h3, h4, h5⟩ := T
  refine pe_weak (pe_leaf0 h3 h1 h2 hsup hr hg hdb) fun σ H Q ⟨E, N, c, env, st, d, st', R, q, kk⟩ => ?_
  cases q
  intro a dx ha hd ne
  obtain ⟨x2, W2, r2⟩ := err_laid R.wd ha hd ne (hM ▸ h1) .non
  exact kk _ _ _ _ x2 W2 r2
theorem d_errB (T : BF X.K X.mg cn) (hM : X.mg = mg.mg := by rfl) (hg : Gl X cn := by rfl) (hdb : (cn == ("__debug__" : Str)) = false := by decide) : PE X (.Call (.Name cn p) [] [] pos) (tE mg (eErrB cn)) := by
  obtain ⟨C, gC, kC, q, sb, ty⟩ := T
  refine pe_weak (pe_bare q gC kC hg hdb) fun σ H Q ⟨E, N, c, env, st, d, st', R, q, kk⟩ => ?_
  cases q
  intro a ha
  exact kk _ _ _ _ (Ex.laid R.wd ha) (R.wd.laid ha) (err_laid0 R.wd ha (hM ▸ gC))
/-- e.value of an error -/
def tErV (K : PySem.W.Frag) (t : TE) : TE := fun σ H Q => t σ H fun x H1 => ∃ (a C dx : Addr) (v : V), x = .ref a ∧ H1 a = some (ErO C (some dx) a) ∧ H1 dx = some (.xd [(("value" : Str), v)]) ∧ XfC K C ∧ PySem.W.findIn K (.ref C) "value" = some none ∧ Q v H1
theorem pe_erv {te : TE} (he : PE X e te) (hb : attributeBase e "value" X.env (eval e X.env) = eval e X.env := by rfl) : PE X (.Attribute e "value" pos) (tErV X.K te) := by
  refine ⟨fun pins s σ H Q I h => ?_⟩
  refine attr_of hb (thn (he.run pins s σ H _ I h) fun u s1 hh => ?_)
  obtain ⟨x, H1, I1, rx, a, C, dd, v, ex, ha, ed, T, hno, q⟩ := hh
  subst ex
  obtain rfl : u = Value.ref a := rx
  obtain ⟨oe, vs, ho1, hz, hd⟩ := ero_at I1.hok ha
  have hx : ObjOk X.prog X.w H1 s1.heap dd (.xd [(("value" : Str), v)]) := I1.hok dd _ ed
  obtain ⟨mA, hns, hr⟩ := hx
  obtain ⟨od, ho, hl⟩ := lookIn_ns hns
  obtain ⟨u, hu, ru⟩ := RelO.some_of (v := v) (o := mA "value") (by
    have z := hr "value"
    have q : List.lookup ("value" : Str) [(("value" : Str), v)] = some v := by simp [List.lookup]
    rw [q] at z
    exact z)
  have J : PySem.W.InstAt s1.heap a oe C (some od) := ⟨ho1, hz.1, by unfold PySem.W.notCls; rw [hd] <;> rfl, by rw [hz.2]; exact ho⟩
  exact HandSPX.exc_get I1.kIn J T.ga T.gg T.exC (PySem.W.findObj_own T.hdC hno rfl (by rw [hl, hu])) (handed_of ru) ⟨v, H1, I1.tok _, ru, q⟩
theorem d_errV (T : EvF X.K X.mg es) (he : PE X e (tE mg f)) (hM : X.mg = mg.mg := by rfl) (hb : attributeBase e "value" X.env (eval e X.env) = eval e X.env := by rfl) : PE X (.Attribute e "value" pos) (tE mg (eErrV es f)) :=
  pe_weak (pe_erv he hb) fun σ H Q h => by
    obtain ⟨E, N, c, env, st, d, st', R, q, kk⟩ := h
    unfold eErrV at q
    split at q
    · rename_i cn d0 s1 q1
      split at q
      · rename_i hcn
        cases q
        refine ⟨E, N, c, env, st, _, _, R, q1, fun v N' c' H' x W r => ?_⟩
        cases r with
        | err1 hc ha n hd nd r =>
          obtain ⟨C', e1, e2, e3⟩ := T _ hcn
          rw [hM, hc] at e1
          cases e1
          exact ⟨_, _, _, _, rfl, ha, hd, e2, e3, kk _ _ _ _ x W r⟩
      · cases q
    · cases q
end
/-! ### isinstance of an error -/
def rIsX (K : PySem.W.Frag) : List V → Hp → VK → Prop := fun xs H Q => ∃ (a D : Addr) (d : Option Addr) (c : V) (cv : Value) (b : Bool), xs = [.ref a, c] ∧ H a = some (ErO D d a) ∧ (∀ dx, d = some dx → ∃ fs, H dx = some (.xd fs)) ∧ ExcC K D ∧ (∀ u, RelV c u → u = cv) ∧ PySem.W.kitOne K (.ref D) cv = some b ∧ Q (.bl b) H
theorem call_isX {X : Cx} : CallR X (.builtin "isinstance") (rIsX X.K) := by
  intro pins s σ H xs us Q I r h
  obtain ⟨a, D, d, c, cv, b, rfl, ha, hd, C, hcv, e, q⟩ := h
  obtain ⟨u1, u2, rfl, r1, r2⟩ := vals2 r
  obtain rfl : u1 = Value.ref a := r1
  have ec := hcv _ r2
  subst ec
  obtain ⟨oe, vs, hget, hz, hv⟩ := ero_at I.hok ha
  have J : ∃ od, PySem.W.InstAt s.heap a oe D od := by
    have no : PySem.W.notCls oe = true := by unfold PySem.W.notCls; rw [hv] <;> rfl
    cases d with
    | none => exact ⟨none, hget, hz.1, no, by rw [hz.2]; trivial⟩
    | some dx =>
      obtain ⟨fs, hx⟩ := hd dx rfl
      have hx : ObjOk X.prog X.w H s.heap dx (.xd fs) := I.hok dx _ hx
      obtain ⟨mA, hns, hr⟩ := hx
      obtain ⟨od, ho, hl⟩ := lookIn_ns hns
      exact ⟨some od, hget, hz.1, no, by rw [hz.2]; exact ho⟩
  obtain ⟨od, J⟩ := J
  exact PySem.W.kia_one (PySem.W.kitx_excO C.hg C.hk C.hs C.hd C.ha C.hn C.ht C.hm) I.kIn J e (fun z => nomatch z) fun tk => ⟨.bl b, H, I.tok tk, rfl, q⟩
/-- the classes es, as isinstance sees their instances -/
def XIE (mg : Glob) (es : List Str) : Prop := ∀ n, n ∈ es → ∃ C, mg.mg n = some (.ref C) ∧ ExcC mg.K C ∧ PySem.W.kitOne mg.K (.ref C) (.type "ValueError") = some true ∧ ∀ m, m ∈ es → ∀ C', mg.mg m = some (.ref C') → PySem.W.kitOne mg.K (.ref C) (.ref C') = some (xsub n m)
def gIsX (es : List Str) : List D → Sto → Option D := fun ds _ => match ds with
  | [.err n _, .cls m] => if n ∈ es ∧ m ∈ es then some (.bl (xsub n m)) else none
  | [.err n _, .ty b] => if n ∈ es ∧ b = "ValueError" then some (.bl true) else none
  | _ => none
theorem RepT.err {mg : Glob} {N : Prot} {c : List Addr} {H : Hp} {u : V} {cn : Str} {vs : List D} (h : RepT mg N c H u (.err cn vs)) : ∃ (a C : Addr) (d : Option Addr), u = .ref a ∧ mg.mg cn = some (.ref C) ∧ H a = some (ErO C d a) ∧ ∀ dx, d = some dx → ∃ fs, H dx = some (.xd fs) := by
  rcases h with h | ⟨_, _, _, _, e, _⟩
  · cases h with
    | err0 hc ha n => exact ⟨_, _, _, rfl, hc, ha, fun _ e => nomatch e⟩
    | err1 hc ha n hd nd r => exact ⟨_, _, _, rfl, hc, ha, fun _ e => by cases e; exact ⟨_, hd⟩⟩
  · cases e
theorem ok_isX {mg : Glob} {es : List Str} (T : XIE mg es) : BiOk mg (RE mg) (rIsX mg.K) (gIsX es) := by
  intro N c H st us ds d Q W p q k
  unfold gIsX at q
  split at q
  · rename_i n vs m
    obtain ⟨u, u', rfl, h, h'⟩ := tl2 p
    obtain ⟨C', rfl, hc'⟩ := h'.cls
    split at q
    · rename_i hnm
      cases q
      obtain ⟨a, C, dd, rfl, hc, ha, hd⟩ := h.err
      obtain ⟨C2, e1, e2, e3, e4⟩ := T n hnm.1
      rw [hc] at e1
      cases e1
      exact ⟨a, C, dd, .ref C', .ref C', _, rfl, ha, hd, e2, fun u r => r, e4 m hnm.2 C' hc', k _ N c H Ex.refl W (.bl _)⟩
    · cases q
  · rename_i n vs b
    obtain ⟨u, u', rfl, h, h'⟩ := tl2 p
    have e' := h'.ty
    subst e'
    split at q
    · rename_i hnm
      cases q
      obtain ⟨hn, rfl⟩ := hnm
      obtain ⟨a, C, dd, rfl, hc, ha, hd⟩ := h.err
      obtain ⟨C2, e1, e2, e3, e4⟩ := T n hn
      rw [hc] at e1
      cases e1
      exact ⟨a, C, dd, .ty "ValueError", .type "ValueError", _, rfl, ha, hd, e2, fun u r => r, e3, k _ N c H Ex.refl W (.bl _)⟩
    · cases q
  · cases q
theorem d_isX {mg : Glob} {X : Cx} {e : Expr} {es : List Expr} {p pos : Pos} {f : SA} {cs : List Str} (T : XIE mg cs) (hm : X.mg "isinstance" = none) (ha : PA X (e :: es) (tAP mg f)) (hg : Gl X "isinstance" := by rfl) (he : starEach (e :: es) X.env = (false, eval e X.env) :: starEach es X.env := by rfl) (hpl : (backTo pos (starEach es X.env)).any (·.1) = false := by rfl) (hK : X.K = mg.K := by rfl) : PE X (.Call (.Name "isinstance" p) (e :: es) [] pos) (tE mg (eBi (gIsX cs) f)) :=
  d_bi (hK ▸ call_isX) (ok_isX T) back_E hg hm (by decide +kernel) ha (by decide) (by decide) he hpl
/-- no own classes -/
theorem isi0 {mg : Glob} : Isi mg [] where
  cf := fun n C h => absurd h List.not_mem_nil
  oo := fun n m C C' h => absurd h List.not_mem_nil
  bo := fun t m C h => absurd h List.not_mem_nil
  ob := fun n C t h => absurd h List.not_mem_nil
/-! ### repr -/
def rReprZ (K : PySem.W.Frag) : List V → Hp → VK → Prop := fun xs H Q => rRepr K xs H Q ∨ ∃ a, xs = [.ref a] ∧ Rd H a (.dK []) ∧ Q (.str (PyData.dict []).shown) H
theorem call_reprZ {X : Cx} (hg : X.A.guards = some []) (hu : X.A.units + 80 < cLine) : CallR X (.builtin "repr") (rReprZ X.K) := by
  intro pins s σ H xs us Q I r h
  rcases h with h | ⟨a, rfl, ha, q⟩
  · exact call_repr hg hu pins s σ H xs us Q I r h
  · obtain ⟨u, rfl, ru⟩ := vals1 r
    cases (show u = Value.ref a from ru)
    obtain ⟨as, rd, nd⟩ := DpD.reads I (.dK (kvs := []) ha .nil) (show RelV (.ref a) (.ref a) from rfl)
    exact repr_of_reads' rd (by decide +kernel) (fun _ => nd) hg (by
      have : (PyData.dict (List.zip (List.map (fun kv => keyPy kv.1) ([] : List (Key × V))) [])).depth ≤ 1 := by decide +kernel
      omega) (fun _ _ e => e) (fun h' u tk hk => ⟨.str _, H, I.kept hk, ⟨u, rfl⟩, q⟩) (by rw [sizeLine_eq]; decide +kernel)
def gReprZ : List D → Sto → Option D := fun ds st => match ds with
  | [.dic [] []] => some (.str (PyData.dict []).shown)
  | ds => gRepr ds st
theorem ok_reprZ {mg : Glob} : BiOk mg (RE mg) (rReprZ mg.K) gReprZ := by
  intro N c H st us ds d Q W p q k
  unfold gReprZ at q
  split at q
  · cases q
    obtain ⟨u, rfl, h⟩ := tl1 p
    rcases h with h | ⟨_, _, _, _, e, _⟩
    · cases h with
      | dic ha nn hn r =>
        rename_i a kvs
        obtain rfl : kvs = [] := List.map_eq_nil_iff.mp hn
        exact .inr ⟨a, rfl, .inl ha, k _ N c H Ex.refl W (.str _)⟩
      | dfz ha nn hn r =>
        rename_i a o kvs
        obtain rfl : kvs = [] := List.map_eq_nil_iff.mp hn
        exact .inr ⟨a, rfl, .inr ⟨_, ha⟩, k _ N c H Ex.refl W (.str _)⟩
    · cases e
  · exact .inl (ok_repr N c H st us _ d Q W p q k)
theorem d_reprZ {mg : Glob} {X : Cx} {e : Expr} {p pos : Pos} {f : SA} (hgd : X.A.guards = some []) (hu : X.A.units + 80 < cLine) (hm : X.mg "repr" = none) (ha : PA X [e] (tAP mg f)) (hg : Gl X "repr" := by rfl)
    (he : starEach [e] X.env = (false, eval e X.env) :: starEach [] X.env := by rfl) (hpl : (backTo pos (starEach [] X.env)).any (·.1) = false := by rfl) (hK : X.K = mg.K := by rfl) : PE X (.Call (.Name "repr" p) [e] [] pos) (tE mg (eBi gReprZ f)) :=
  d_bi (hK ▸ call_reprZ hgd hu) ok_reprZ back_E hg hm (by decide +kernel) ha (by decide) (by decide) he hpl
/-! ### xs.pop() -/
def sPopC (fo : SE) : SS := fun env st => match fo env st with
  | some (.cell k, s1) => match lcG s1 k with
    | some xs => match xs[xs.length - 1]? with
      | some _ => some (.nx env, s1.set k xs.dropLast)
      | none => none
    | none => none
  | _ => none
theorem RepL.dropLast {mg : Glob} {N : Prot} {c : List Addr} {H : Hp} {vs : List V} {ds : List D} (r : RepL mg N c H vs ds) : RepL mg N c H vs.dropLast ds.dropLast := by
  rw [List.dropLast_eq_take, List.dropLast_eq_take, r.length]
  exact r.take _
section
variable {mg : Glob} {X : Cx} {o : Expr} {fo : SE} {apos cpos pos : Pos}
theorem s_popC (ho : PE X o (tE mg fo)) (hbase : attributeBase o "pop" X.env (eval o X.env) = eval o X.env := by rfl) (hline : (apos.endLine == cpos.line) = true := by rfl) (hs : swapsWith (.Call (.Attribute o "pop" apos) [] [] cpos) none pos.line X.env = pure false := by rfl) :
    PS X (.Expr (.Call (.Attribute o "pop" apos) [] [] cpos) pos) (tS mg (sPopC fo)) :=
  ps_weak (ps_expr (pe_bm0 PySem.F.plainAttrs_list PySem.F.slot_list_pop PySem.F.type_list_pop mt_pop ho hbase hline) hs) fun De σ H h => by
    obtain ⟨E, N, c, env, st, o, st', R, q, p⟩ := tS_def.mp h
    unfold sPopC at q
    split at q
    · rename_i k s1 q1
      split at q
      · rename_i xs hx
        split at q
        · rename_i y hy
          cases q
          refine ⟨E, N, c, env, st, _, s1, R, q1, fun v N1 c1 H1 x1 W1 r1 => ?_⟩
          cases r1 with
          | cell hk =>
            rename_i a
            obtain ⟨us, hb, r3⟩ := W1.lstC hk hx
            obtain ⟨w, hw, _⟩ := r3.get hy
            have wr := (R.ex x1 W1).writeC hk r3.dropLast
            exact ⟨.inl ⟨rfl, us, SqL.of hb⟩, a, us, w, rfl, rfl, hb, by rw [r3.length]; exact hw, p N1 c1 σ _ ((x1.sx R.wd W1).trans wr.2) wr.1⟩
        · cases q
      · cases q
    · cases q
end
end LW

/-! LwLd: errors as data: forward rules; the facts at the head. -/
namespace LW
open PySem L2 PyProof.Rows
section
variable {env : Env} {st : Sto} {Q : D → Sto → Prop} {f fo : SE} {cn : Str} {es : List Str} {QS : Out → Sto → Prop} {QD : D → Prop} {s : Sto}
theorem z_err (h : Ok (f env st) fun d s => Q (.err cn [d]) s) : Ok (eErr cn f env st) Q := by
  obtain ⟨d, s1, e, q⟩ := h
  exact ⟨_, _, by unfold eErr; rw [e], q⟩
theorem z_err0 (q : Q (.err cn [.non]) st) : Ok (eErr0 cn env st) Q := ⟨_, _, rfl, q⟩
theorem z_errB (q : Q (.err cn []) st) : Ok (eErrB cn env st) Q := ⟨_, _, rfl, q⟩
theorem z_errV (h : Ok (f env st) fun o s => ∃ cn d, o = .err cn [d] ∧ cn ∈ es ∧ Q d s) : Ok (eErrV es f env st) Q := by
  obtain ⟨o, s1, e, cn, d, rfl, hc, q⟩ := h
  exact ⟨_, _, by unfold eErrV; rw [e]; dsimp only; rw [if_pos hc], q⟩
theorem z_popC (h : Ok (fo env st) fun o s => AsK o fun k => ∃ xs, lcG s k = some xs ∧ xs ≠ [] ∧ QS (.nx env) (s.set k xs.dropLast)) : Ok (sPopC fo env st) QS := by
  obtain ⟨o, s1, e1, h⟩ := h
  obtain ⟨k, rfl, xs, e2, ne, q⟩ := h.of
  have l : 0 < xs.length := List.length_pos_iff.mpr ne
  refine ⟨_, _, ?_, q⟩
  unfold sPopC
  rw [e1]
  dsimp only
  rw [e2]
  dsimp only
  rw [List.getElem?_eq_getElem (show xs.length - 1 < xs.length by omega)]
end
theorem d_clsX {mg : Glob} {X : Cx} {x : Str} {pos : Pos} (T : ∃ C, X.mg x = some (.ref C)) (hg : Gl X x := by rfl) (hd : (x == ("__debug__" : Str)) = false := by decide) (hM : X.mg = mg.mg := by rfl) : PE X (.Name x pos) (tE mg (eC (.cls x))) := by
  obtain ⟨C, h⟩ := T
  exact d_cls hg h hd hM
/-! ### facts -/
theorem ex_of {K : PySem.W.Frag} {cn : Str} (e : exB K cn = true) : ExcC K (He.ga K cn) := by
  obtain ⟨e1, e⟩ := bsplit e
  obtain ⟨e2, e⟩ := bsplit e
  obtain ⟨e3, e⟩ := bsplit e
  obtain ⟨e4, e⟩ := bsplit e
  obtain ⟨e5, e⟩ := bsplit e
  obtain ⟨e6, e⟩ := bsplit e
  obtain ⟨e7, e8⟩ := bsplit e
  exact ⟨He.eqO_ok e1, He.eqO_ok e2, eqB_ok e3, e4, He.eqO_ok e5, He.eqO_ok e6, eqB_ok e7, eqB_ok e8⟩
theorem xi_of {K : PySem.W.Frag} {mg : Str → Option Value} {es : List Str} (hC : ∀ c ∈ es, mg c = some (.ref (He.ga K c))) (e : xiB K es = true) : XIE ⟨mg, K⟩ es := fun n hn => by
  obtain ⟨e1, e⟩ := bsplit (List.all_eq_true.mp e n hn)
  obtain ⟨e2, e3⟩ := bsplit e
  refine ⟨_, hC n hn, ex_of e1, eqB_ok e2, fun m hm C' hC' => ?_⟩
  cases (hC m hm).symm.trans hC'
  exact eqB_ok (List.all_eq_true.mp e3 m hm)
end LW

/-! The walk of law_k01_errors_made: printed by gen.py. -/
namespace K01
open PySem L2 LW PyProof.Rows
abbrev EVS : List Str := ["InvalidTerm", "InvalidRule", "NotFlat", "InvalidPath", "InvalidRows", "InvalidHours", "InvalidWhole", "InvalidCount", "InvalidName", "InvalidNames", "UnknownName", "TakenName", "InvalidRules", "InvalidBook", "Unlike", "InvalidLates", "InvalidCorners", "InvalidStair", "InvalidWindows", "InvalidSights", "Clash", "InvalidHall", "InvalidScript", "InvalidLog", "InvalidText", "StillNeeded"]
abbrev ES : List Str := ["InvalidTerm", "InvalidRule", "NotFlat", "InvalidPath", "InvalidRows", "InvalidHours", "InvalidWhole", "InvalidCount", "InvalidName", "InvalidNames", "UnknownName", "TakenName", "InvalidRules", "InvalidBook", "Unlike", "InvalidLates", "InvalidCorners", "InvalidStair", "InvalidWindows", "InvalidSights", "Clash", "InvalidHall", "InvalidScript", "InvalidLog", "InvalidText", "StillNeeded", "NothingToUndo", "NothingToRedo", "LeafError"]
structure Txt0 (P : Program) (K : PySem.W.Frag) (mg : Str → Option Value) : Prop where
  F__law_bare : FT K mg "_law_bare" s__law_bare
  F__law_code : FT K mg "_law_code" s__law_code
  F__law_draw : FT K mg "_law_draw" s__law_draw
  F__law_first : FT K mg "_law_first" s__law_first
  F__law_is_error : FT K mg "_law_is_error" s__law_is_error
  F__law_mixed : FT K mg "_law_mixed" s__law_mixed
  F__law_named : FT K mg "_law_named" s__law_named
  F__law_one_of : FT K mg "_law_one_of" s__law_one_of
  F__law_purse : FT K mg "_law_purse" s__law_purse
  F__law_purses : FT K mg "_law_purses" s__law_purses
  F__law_right : FT K mg "_law_right" s__law_right
  F__law_word : FT K mg "_law_word" s__law_word
  F_law : FT K mg "law" s_law
  bf_LeafError : BF K mg "LeafError"
  bf_NothingToRedo : BF K mg "NothingToRedo"
  bf_NothingToUndo : BF K mg "NothingToUndo"
  cx_Clash : ∃ C, mg "Clash" = some (.ref C)
  cx_InvalidBook : ∃ C, mg "InvalidBook" = some (.ref C)
  cx_InvalidCorners : ∃ C, mg "InvalidCorners" = some (.ref C)
  cx_InvalidCount : ∃ C, mg "InvalidCount" = some (.ref C)
  cx_InvalidHall : ∃ C, mg "InvalidHall" = some (.ref C)
  cx_InvalidHours : ∃ C, mg "InvalidHours" = some (.ref C)
  cx_InvalidLates : ∃ C, mg "InvalidLates" = some (.ref C)
  cx_InvalidLog : ∃ C, mg "InvalidLog" = some (.ref C)
  cx_InvalidName : ∃ C, mg "InvalidName" = some (.ref C)
  cx_InvalidNames : ∃ C, mg "InvalidNames" = some (.ref C)
  cx_InvalidPath : ∃ C, mg "InvalidPath" = some (.ref C)
  cx_InvalidRows : ∃ C, mg "InvalidRows" = some (.ref C)
  cx_InvalidRule : ∃ C, mg "InvalidRule" = some (.ref C)
  cx_InvalidRules : ∃ C, mg "InvalidRules" = some (.ref C)
  cx_InvalidScript : ∃ C, mg "InvalidScript" = some (.ref C)
  cx_InvalidSights : ∃ C, mg "InvalidSights" = some (.ref C)
  cx_InvalidStair : ∃ C, mg "InvalidStair" = some (.ref C)
  cx_InvalidTerm : ∃ C, mg "InvalidTerm" = some (.ref C)
  cx_InvalidText : ∃ C, mg "InvalidText" = some (.ref C)
  cx_InvalidWhole : ∃ C, mg "InvalidWhole" = some (.ref C)
  cx_InvalidWindows : ∃ C, mg "InvalidWindows" = some (.ref C)
  cx_LeafError : ∃ C, mg "LeafError" = some (.ref C)
  cx_NotFlat : ∃ C, mg "NotFlat" = some (.ref C)
  cx_NothingToRedo : ∃ C, mg "NothingToRedo" = some (.ref C)
  cx_NothingToUndo : ∃ C, mg "NothingToUndo" = some (.ref C)
  cx_StillNeeded : ∃ C, mg "StillNeeded" = some (.ref C)
  cx_TakenName : ∃ C, mg "TakenName" = some (.ref C)
  cx_UnknownName : ∃ C, mg "UnknownName" = some (.ref C)
  cx_Unlike : ∃ C, mg "Unlike" = some (.ref C)
  ev : EvF K mg EVS
  lf_Clash : LF P K mg "Clash"
  lf_InvalidBook : LF P K mg "InvalidBook"
  lf_InvalidCorners : LF P K mg "InvalidCorners"
  lf_InvalidCount : LF P K mg "InvalidCount"
  lf_InvalidHall : LF P K mg "InvalidHall"
  lf_InvalidHours : LF P K mg "InvalidHours"
  lf_InvalidLates : LF P K mg "InvalidLates"
  lf_InvalidLog : LF P K mg "InvalidLog"
  lf_InvalidName : LF P K mg "InvalidName"
  lf_InvalidNames : LF P K mg "InvalidNames"
  lf_InvalidPath : LF P K mg "InvalidPath"
  lf_InvalidRows : LF P K mg "InvalidRows"
  lf_InvalidRule : LF P K mg "InvalidRule"
  lf_InvalidRules : LF P K mg "InvalidRules"
  lf_InvalidScript : LF P K mg "InvalidScript"
  lf_InvalidSights : LF P K mg "InvalidSights"
  lf_InvalidStair : LF P K mg "InvalidStair"
  lf_InvalidTerm : LF P K mg "InvalidTerm"
  lf_InvalidText : LF P K mg "InvalidText"
  lf_InvalidWhole : LF P K mg "InvalidWhole"
  lf_InvalidWindows : LF P K mg "InvalidWindows"
  lf_NotFlat : LF P K mg "NotFlat"
  lf_StillNeeded : LF P K mg "StillNeeded"
  lf_TakenName : LF P K mg "TakenName"
  lf_UnknownName : LF P K mg "UnknownName"
  lf_Unlike : LF P K mg "Unlike"
  n_ValueError : mg "ValueError" = none
  n_dict : mg "dict" = none
  n_isinstance : mg "isinstance" = none
  n_len : mg "len" = none
  n_list : mg "list" = none
  n_max : mg "max" = none
  n_min : mg "min" = none
  n_range : mg "range" = none
  n_repr : mg "repr" = none
  n_sum : mg "sum" = none
  n_super : mg "super" = none
  xi : XIE ⟨mg, K⟩ ES
section
variable {P : Program} {w : World} {K : PySem.W.Frag} {mg : Str → Option Value} {base : Heap}
theorem u1 {k : Nat} {A : Around} (r : Room k A) : A.units + 1 < cLine := by have := r.un; omega
theorem u80 {k : Nat} {A : Around} (r : Room k A) : A.units + 80 < cLine := by have := r.un; omega
/-! ### _law_purse -/
def b__law_purse : SS := sSeq (sSet 2 (eBi gSum (aCons (eL (eSl slL (ePeek 0) (oSome (ePeek 1)) (oSome (eOp oAdd (ePeek 1) (eC (.int 1)))))) (aNil))))
  (sRetC (lDisp (aCons (eOp oMod (eBi gMax (aCons (eOp oSub (ePeek 2) (eOp oPow (eC (.int 10)) (eC (.int 18)))) (aCons (eC (.int 0)) (aNil)))) (eOp oPow (eOp oPow (eC (.int 10)) (eC (.int 60))) (eC (.int 8)))) (aCons (eOp oMod (ePeek 2) (eC (.int 2147483629))) (aCons (eC (.int 0)) (aCons (eVar 1) (aNil)))))))
def m__law_purse : FM := fnM 2 3 b__law_purse
theorem sc__law_purse : FnScope ["_law_script", "_law_at", "_law_seed"] ["_law_script", "_law_at"] (defScope s__law_purse) := ⟨rfl, rfl, rfl, by decide +kernel, rfl, by decide +kernel, by decide +kernel⟩
theorem ok__law_purse (T : Txt0 P K mg ) : OkF P w K mg base 1 "_law_purse" ["_law_script", "_law_at"] m__law_purse := by
  refine okF_mk (nm := ["_law_script", "_law_at", "_law_seed"]) T.F__law_purse sc__law_purse (fun _ _ _ _ _ _ us hl => match us, hl with | [_, _], _ => rfl) (fun f cdv A outer s H E hr => ?_)
  exact s_cons (s_set (i := 2) sc__law_purse.nd (d_sum rfl (T.n_sum) (p_cons (d_peek (d_give (d_slL (d_look 0) (o_some (d_look 1)) (o_some (d_peek (d_add (d_look 1) (d_peek (d_int)))))))) (p_nil))))
      (s_one (s_retC (d_lst (a_cons (d_mod (d_peek (d_max rfl (T.n_max) (p_cons (d_peek (d_sub (d_look 2) (d_peek (d_pow (d_peek (d_int)) (d_peek (d_int)))))) (p_cons (d_peek (d_int)) (p_nil))))) (d_peek (d_pow (d_peek (d_pow (d_peek (d_int)) (d_peek (d_int)))) (d_peek (d_int))))) (a_cons (d_mod (d_look 2) (d_peek (d_int))) (a_cons (d_int) (a_cons (d_var 1) (a_nil))))))))
/-! ### _law_purses -/
def b__law_purses : SS := sRet (eL (lComp (iRg1 (aCons (eBi gMax (aCons (eC (.int 1)) (aCons (eBi gMin (aCons (ePeek 1) (aCons (eBi gLen (aCons (ePeek 0) (aNil))) (aNil)))) (aNil)))) (aNil))) (asgN 2) (bYes) (eCall m__law_purse [] (aCons (eVar 0) (aCons (eVar 2) (aNil)))) [2]))
def m__law_purses : FM := fnM 2 3 b__law_purses
theorem sc__law_purses : FnScope ["_law_script", "_law_few", "_law_at"] ["_law_script", "_law_few"] (defScope s__law_purses) := ⟨rfl, rfl, rfl, by decide +kernel, rfl, by decide +kernel, by decide +kernel⟩
theorem ok__law_purses (T : Txt0 P K mg ) : OkF P w K mg base 2 "_law_purses" ["_law_script", "_law_few"] m__law_purses := by
  refine okF_mk (nm := ["_law_script", "_law_few", "_law_at"]) T.F__law_purses sc__law_purses (fun _ _ _ _ _ _ us hl => match us, hl with | [_, _], _ => rfl) (fun f cdv A outer s H E hr => ?_)
  have hr1 : Room 1 _ := hr.mono (by decide)
  exact s_one (s_ret (d_give (d_lc rfl sc__law_purses.nd (i_rg1 (T.n_range) (p_cons (d_peek (d_max rfl (T.n_max) (p_cons (d_peek (d_int)) (p_cons (d_peek (d_min rfl (T.n_min) (p_cons (d_look 1) (p_cons (d_peek (d_len (T.n_len) (p_cons (d_look 0) (p_nil)))) (p_nil))))) (p_nil))))) (p_nil))) (blkOk_by (own := [("_law_at", 2)]) (by first | (show blkC ["_law_script", "_law_few", "_law_at"] (defScope s__law_purses) _ _ = true; decide +kernel) | kernel_rfl | rfl)) (fun _ _ _ _ _ => t_name (i := 2) sc__law_purses.nd) (gok_name 2) (by decide) (fun _ _ _ _ _ => pts_nilT) (fun _ _ _ _ _ => c_call (ok__law_purse T) hr1 (a_cons (d_var 0) (a_cons (d_var 2) (a_nil)))))))
/-! ### _law_mixed -/
def b__law_mixed : SS := sSeq (sSet 3 (eOp oAdd (eOp oMul (ePeek 0) (eC (.int 69069))) (eOp oMul (eOp oMul (eC (.int 104729)) (ePeek 1)) (ePeek 1))))
  (sSeq (sSet 3 (eOp oMod (eOp oAdd (eOp oAdd (ePeek 3) (eOp oMul (eC (.int 7919)) (ePeek 2))) (ePeek 1)) (eC (.int 2147483647))))
  (sSeq (sSet 3 (eOp oMod (eOp oAdd (eOp oMul (ePeek 3) (ePeek 3)) (eC (.int 40503))) (eC (.int 2147483629))))
  (sRet (eOp oMod (eOp oMul (ePeek 3) (eC (.int 48271))) (eC (.int 2147483587))))))
def m__law_mixed : FM := fnM 3 4 b__law_mixed
theorem sc__law_mixed : FnScope ["_law_seed", "_law_turn", "_law_at", "_law_mixed_here"] ["_law_seed", "_law_turn", "_law_at"] (defScope s__law_mixed) := ⟨rfl, rfl, rfl, by decide +kernel, rfl, by decide +kernel, by decide +kernel⟩
theorem ok__law_mixed (T : Txt0 P K mg ) : OkF P w K mg base 1 "_law_mixed" ["_law_seed", "_law_turn", "_law_at"] m__law_mixed := by
  refine okF_mk (nm := ["_law_seed", "_law_turn", "_law_at", "_law_mixed_here"]) T.F__law_mixed sc__law_mixed (fun _ _ _ _ _ _ us hl => match us, hl with | [_, _, _], _ => rfl) (fun f cdv A outer s H E hr => ?_)
  exact s_cons (s_set (i := 3) sc__law_mixed.nd (d_add (d_peek (d_mul (d_look 0) (d_peek (d_int)))) (d_peek (d_mul (d_peek (d_mul (d_peek (d_int)) (d_look 1))) (d_look 1)))))
      (s_cons (s_set (i := 3) sc__law_mixed.nd (d_mod (d_peek (d_add (d_peek (d_add (d_look 3) (d_peek (d_mul (d_peek (d_int)) (d_look 2))))) (d_look 1))) (d_peek (d_int))))
      (s_cons (s_set (i := 3) sc__law_mixed.nd (d_mod (d_peek (d_add (d_peek (d_mul (d_look 3) (d_look 3))) (d_peek (d_int)))) (d_peek (d_int))))
      (s_one (s_ret (d_mod (d_peek (d_mul (d_look 3) (d_peek (d_int)))) (d_peek (d_int)))))))
/-! ### _law_draw -/
def b__law_draw : SS := sSeq (sIf (bOf (eOp oGt (eOp oIx (ePeek 0) (eC (.int 0))) (eC (.int 0))))
  (sSeq (sSet 2 (eOp oMod (eOp oIx (ePeek 0) (eC (.int 0))) (ePeek 1)))
  (sSeq (sPutC (eVar 0) (eC (.int 0)) (eOp oDiv (eOp oIx (ePeek 0) (eC (.int 0))) (ePeek 1)))
  (sRet (eVar 2))))
  (sNil))
  (sSeq (sSet 3 (eC (.int 0)))
  (sSeq (sFor (iRg1 (aCons (eOp oAdd (eC (.int 1)) (eOp oDiv (eBits (ePeek 1)) (eC (.int 28)))) (aNil))) (asgN 4)
  (sSeq (sPutC (eVar 0) (eC (.int 2)) (eOp oAdd (eOp oIx (ePeek 0) (eC (.int 2))) (eC (.int 1))))
  (sSet 3 (eOp oAdd (eOp oMul (ePeek 3) (eC (.int 2147483587))) (eCall m__law_mixed [] (aCons (eOp oIx (ePeek 0) (eC (.int 1))) (aCons (eOp oIx (ePeek 0) (eC (.int 2))) (aCons (eOp oIx (ePeek 0) (eC (.int 3))) (aNil)))))))))
  (sRet (eOp oMod (ePeek 3) (ePeek 1)))))
def m__law_draw : FM := fnM 2 5 b__law_draw
theorem sc__law_draw : FnScope ["_law_purse_here", "_law_many", "_law_drawn", "_law_found", "_law_piece"] ["_law_purse_here", "_law_many"] (defScope s__law_draw) := ⟨rfl, rfl, rfl, by decide +kernel, rfl, by decide +kernel, by decide +kernel⟩
theorem ok__law_draw (T : Txt0 P K mg ) : OkF P w K mg base 2 "_law_draw" ["_law_purse_here", "_law_many"] m__law_draw := by
  refine okF_mk (nm := ["_law_purse_here", "_law_many", "_law_drawn", "_law_found", "_law_piece"]) T.F__law_draw sc__law_draw (fun _ _ _ _ _ _ us hl => match us, hl with | [_, _], _ => rfl) (fun f cdv A outer s H E hr => ?_)
  have hr1 : Room 1 _ := hr.mono (by decide)
  exact s_cons (s_if (d_testC (d_peek (d_gt (d_peek (d_ix (d_look 0) (d_peek (d_int)))) (d_peek (d_int)))))
      (s_cons (s_set (i := 2) sc__law_draw.nd (d_mod (d_peek (d_ix (d_look 0) (d_peek (d_int)))) (d_look 1)))
      (s_cons (s_putC (d_div (d_peek (d_ix (d_look 0) (d_peek (d_int)))) (d_look 1)) (d_var 0) (d_peek (d_int)) (fun _ => rfl))
      (s_one (s_ret (d_var 2)))))
      (s_nil))
      (s_cons (s_set (i := 3) sc__law_draw.nd (d_int))
      (s_cons (s_for PassesOwn.never rfl (i_rg1 (T.n_range) (p_cons (d_peek (d_add (d_peek (d_int)) (d_peek (d_div (d_peek (d_bits (d_look 1))) (d_peek (d_int)))))) (p_nil))) (t_name (i := 4) sc__law_draw.nd) (gok_name 4)
      (s_cons (s_putC (d_add (d_peek (d_ix (d_look 0) (d_peek (d_int)))) (d_peek (d_int))) (d_var 0) (d_peek (d_int)) (fun _ => rfl))
      (s_one (s_set (i := 3) sc__law_draw.nd (d_add (d_peek (d_mul (d_look 3) (d_peek (d_int)))) (d_peek (c_call (ok__law_mixed T) hr1 (a_cons (d_ix (d_look 0) (d_peek (d_int))) (a_cons (d_ix (d_look 0) (d_peek (d_int))) (a_cons (d_ix (d_look 0) (d_peek (d_int))) (a_nil)))))))))))
      (s_one (s_ret (d_mod (d_look 3) (d_look 1))))))
/-! ### _law_word -/
def b__law_word : SS := sSeq (sSet 1 (eC (.str "")))
  (sSeq (sFor (iRg1 (aCons (eOp oAdd (eC (.int 1)) (eCall m__law_draw [] (aCons (eVar 0) (aCons (eC (.int 8)) (aNil))))) (aNil))) (asgN 2)
  (sSet 1 (eOp oAdd (ePeek 1) (eOp oIx (eC (.str "abcdefghijklmnopqrstuvwxyz")) (eCall m__law_draw [] (aCons (eVar 0) (aCons (eC (.int 26)) (aNil))))))))
  (sRet (eVar 1)))
def m__law_word : FM := fnM 1 3 b__law_word
theorem sc__law_word : FnScope ["_law_purse_here", "_law_found", "_law_turn"] ["_law_purse_here"] (defScope s__law_word) := ⟨rfl, rfl, rfl, by decide +kernel, rfl, by decide +kernel, by decide +kernel⟩
theorem ok__law_word (T : Txt0 P K mg ) : OkF P w K mg base 3 "_law_word" ["_law_purse_here"] m__law_word := by
  refine okF_mk (nm := ["_law_purse_here", "_law_found", "_law_turn"]) T.F__law_word sc__law_word (fun _ _ _ _ _ _ us hl => match us, hl with | [_], _ => rfl) (fun f cdv A outer s H E hr => ?_)
  have hr2 : Room 2 _ := hr.mono (by decide)
  exact s_cons (s_set (i := 1) sc__law_word.nd (d_str))
      (s_cons (s_for PassesOwn.never rfl (i_rg1 (T.n_range) (p_cons (d_peek (d_add (d_peek (d_int)) (d_peek (c_call (ok__law_draw T) hr2 (a_cons (d_var 0) (a_cons (d_int) (a_nil))))))) (p_nil))) (t_name (i := 2) sc__law_word.nd) (gok_name 2)
      (s_one (s_set (i := 1) sc__law_word.nd (d_add (d_look 1) (d_peek (d_ix (d_peek (d_str)) (d_peek (c_call (ok__law_draw T) hr2 (a_cons (d_var 0) (a_cons (d_int) (a_nil)))))))))))
      (s_one (s_ret (d_var 1))))
/-! ### _law_one_of -/
def b__law_one_of : SS := sRet (eOp oIx (ePeek 1) (eCall m__law_draw [] (aCons (eVar 0) (aCons (eBi gLen (aCons (ePeek 1) (aNil))) (aNil)))))
def m__law_one_of : FM := fnM 2 2 b__law_one_of
theorem sc__law_one_of : FnScope ["_law_purse_here", "_law_some"] ["_law_purse_here", "_law_some"] (defScope s__law_one_of) := ⟨rfl, rfl, rfl, by decide +kernel, rfl, by decide +kernel, by decide +kernel⟩
theorem ok__law_one_of (T : Txt0 P K mg ) : OkF P w K mg base 3 "_law_one_of" ["_law_purse_here", "_law_some"] m__law_one_of := by
  refine okF_mk (nm := ["_law_purse_here", "_law_some"]) T.F__law_one_of sc__law_one_of (fun _ _ _ _ _ _ us hl => match us, hl with | [_, _], _ => rfl) (fun f cdv A outer s H E hr => ?_)
  have hr2 : Room 2 _ := hr.mono (by decide)
  exact s_one (s_ret (d_ix (d_look 1) (d_peek (c_call (ok__law_draw T) hr2 (a_cons (d_var 0) (a_cons (d_len (T.n_len) (p_cons (d_look 1) (p_nil))) (a_nil)))))))
/-! ### _law_named -/
def b__law_named : SS := sSeq (sSet 1 (eL (lDisp (aCons (eErr "InvalidTerm" (eVar 0)) (aCons (eErr "InvalidRule" (eVar 0)) (aCons (eErr "NotFlat" (eVar 0)) (aNil)))))))
  (sSeq (sSet 1 (eOp oAdd (ePeek 1) (eL (lDisp (aCons (eErr "InvalidPath" (eVar 0)) (aCons (eErr "InvalidRows" (eVar 0)) (aCons (eErr "InvalidHours" (eVar 0)) (aNil))))))))
  (sSeq (sSet 1 (eOp oAdd (ePeek 1) (eL (lDisp (aCons (eErr "InvalidWhole" (eVar 0)) (aCons (eErr "InvalidCount" (eVar 0)) (aCons (eErr "InvalidName" (eVar 0)) (aNil))))))))
  (sSeq (sSet 1 (eOp oAdd (ePeek 1) (eL (lDisp (aCons (eErr "InvalidNames" (eVar 0)) (aCons (eErr "UnknownName" (eVar 0)) (aCons (eErr "TakenName" (eVar 0)) (aNil))))))))
  (sSeq (sSet 1 (eOp oAdd (ePeek 1) (eL (lDisp (aCons (eErr "InvalidRules" (eVar 0)) (aCons (eErr "InvalidBook" (eVar 0)) (aCons (eErr "Unlike" (eVar 0)) (aNil))))))))
  (sSeq (sSet 1 (eOp oAdd (ePeek 1) (eL (lDisp (aCons (eErr "InvalidLates" (eVar 0)) (aCons (eErr "InvalidCorners" (eVar 0)) (aCons (eErr "InvalidStair" (eVar 0)) (aNil))))))))
  (sSeq (sSet 1 (eOp oAdd (ePeek 1) (eL (lDisp (aCons (eErr "InvalidWindows" (eVar 0)) (aCons (eErr "InvalidSights" (eVar 0)) (aCons (eErr "Clash" (eVar 0)) (aNil))))))))
  (sSeq (sSet 1 (eOp oAdd (ePeek 1) (eL (lDisp (aCons (eErr "InvalidHall" (eVar 0)) (aCons (eErr "InvalidScript" (eVar 0)) (aCons (eErr "InvalidLog" (eVar 0)) (aNil))))))))
  (sSeq (sSet 1 (eOp oAdd (ePeek 1) (eL (lDisp (aCons (eErr "InvalidText" (eVar 0)) (aCons (eErr "StillNeeded" (eVar 0)) (aNil)))))))
  (sRet (eVar 1))))))))))
def m__law_named : FM := fnM 1 2 b__law_named
theorem sc__law_named : FnScope ["_law_thing", "_law_found"] ["_law_thing"] (defScope s__law_named) := ⟨rfl, rfl, rfl, by decide +kernel, rfl, by decide +kernel, by decide +kernel⟩
theorem ok__law_named (T : Txt0 P K mg ) : OkF P w K mg base 2 "_law_named" ["_law_thing"] m__law_named := by
  refine okF_mk (nm := ["_law_thing", "_law_found"]) T.F__law_named sc__law_named (fun _ _ _ _ _ _ us hl => match us, hl with | [_], _ => rfl) (fun f cdv A outer s H E hr => ?_)
  have hr1 : Room 1 _ := hr.mono (by decide)
  exact s_cons (s_set (i := 1) sc__law_named.nd (d_give (d_lst (a_cons (d_errK T.lf_InvalidTerm (T.n_super) hr1 (d_var 0)) (a_cons (d_errK T.lf_InvalidRule (T.n_super) hr1 (d_var 0)) (a_cons (d_errK T.lf_NotFlat (T.n_super) hr1 (d_var 0)) (a_nil)))))))
      (s_cons (s_set (i := 1) sc__law_named.nd (d_add (d_look 1) (d_peek (d_give (d_lst (a_cons (d_errK T.lf_InvalidPath (T.n_super) hr1 (d_var 0)) (a_cons (d_errK T.lf_InvalidRows (T.n_super) hr1 (d_var 0)) (a_cons (d_errK T.lf_InvalidHours (T.n_super) hr1 (d_var 0)) (a_nil)))))))))
      (s_cons (s_set (i := 1) sc__law_named.nd (d_add (d_look 1) (d_peek (d_give (d_lst (a_cons (d_errK T.lf_InvalidWhole (T.n_super) hr1 (d_var 0)) (a_cons (d_errK T.lf_InvalidCount (T.n_super) hr1 (d_var 0)) (a_cons (d_errK T.lf_InvalidName (T.n_super) hr1 (d_var 0)) (a_nil)))))))))
      (s_cons (s_set (i := 1) sc__law_named.nd (d_add (d_look 1) (d_peek (d_give (d_lst (a_cons (d_errK T.lf_InvalidNames (T.n_super) hr1 (d_var 0)) (a_cons (d_errK T.lf_UnknownName (T.n_super) hr1 (d_var 0)) (a_cons (d_errK T.lf_TakenName (T.n_super) hr1 (d_var 0)) (a_nil)))))))))
      (s_cons (s_set (i := 1) sc__law_named.nd (d_add (d_look 1) (d_peek (d_give (d_lst (a_cons (d_errK T.lf_InvalidRules (T.n_super) hr1 (d_var 0)) (a_cons (d_errK T.lf_InvalidBook (T.n_super) hr1 (d_var 0)) (a_cons (d_errK T.lf_Unlike (T.n_super) hr1 (d_var 0)) (a_nil)))))))))
      (s_cons (s_set (i := 1) sc__law_named.nd (d_add (d_look 1) (d_peek (d_give (d_lst (a_cons (d_errK T.lf_InvalidLates (T.n_super) hr1 (d_var 0)) (a_cons (d_errK T.lf_InvalidCorners (T.n_super) hr1 (d_var 0)) (a_cons (d_errK T.lf_InvalidStair (T.n_super) hr1 (d_var 0)) (a_nil)))))))))
      (s_cons (s_set (i := 1) sc__law_named.nd (d_add (d_look 1) (d_peek (d_give (d_lst (a_cons (d_errK T.lf_InvalidWindows (T.n_super) hr1 (d_var 0)) (a_cons (d_errK T.lf_InvalidSights (T.n_super) hr1 (d_var 0)) (a_cons (d_errK T.lf_Clash (T.n_super) hr1 (d_var 0)) (a_nil)))))))))
      (s_cons (s_set (i := 1) sc__law_named.nd (d_add (d_look 1) (d_peek (d_give (d_lst (a_cons (d_errK T.lf_InvalidHall (T.n_super) hr1 (d_var 0)) (a_cons (d_errK T.lf_InvalidScript (T.n_super) hr1 (d_var 0)) (a_cons (d_errK T.lf_InvalidLog (T.n_super) hr1 (d_var 0)) (a_nil)))))))))
      (s_cons (s_set (i := 1) sc__law_named.nd (d_add (d_look 1) (d_peek (d_give (d_lst (a_cons (d_errK T.lf_InvalidText (T.n_super) hr1 (d_var 0)) (a_cons (d_errK T.lf_StillNeeded (T.n_super) hr1 (d_var 0)) (a_nil))))))))
      (s_one (s_ret (d_var 1)))))))))))
/-! ### _law_first -/
def b__law_first : SS := sSeq (sSet 1 (eL (lDisp (aCons (eErr "InvalidTerm" (eVar 0)) (aCons (eErr "InvalidRule" (eVar 0)) (aCons (eErr "NotFlat" (eVar 0)) (aCons (eErr "InvalidPath" (eVar 0)) (aNil))))))))
  (sSeq (sSet 1 (eOp oAdd (ePeek 1) (eL (lDisp (aCons (eErr "InvalidRows" (eVar 0)) (aCons (eErr "InvalidHours" (eVar 0)) (aCons (eErr "InvalidWhole" (eVar 0)) (aCons (eErr "InvalidCount" (eVar 0)) (aNil)))))))))
  (sSeq (sSet 1 (eOp oAdd (ePeek 1) (eL (lDisp (aCons (eErr "InvalidName" (eVar 0)) (aCons (eErr "InvalidNames" (eVar 0)) (aCons (eErr "UnknownName" (eVar 0)) (aCons (eErr "TakenName" (eVar 0)) (aNil)))))))))
  (sSeq (sSet 1 (eOp oAdd (ePeek 1) (eL (lDisp (aCons (eErr "InvalidRules" (eVar 0)) (aCons (eErr "InvalidBook" (eVar 0)) (aCons (eErr "Unlike" (eVar 0)) (aCons (eErr "InvalidLates" (eVar 0)) (aNil)))))))))
  (sSeq (sSet 1 (eOp oAdd (ePeek 1) (eL (lDisp (aCons (eErr "InvalidCorners" (eVar 0)) (aCons (eErr "InvalidStair" (eVar 0)) (aCons (eErr "InvalidWindows" (eVar 0)) (aCons (eErr "InvalidSights" (eVar 0)) (aNil)))))))))
  (sSeq (sSet 1 (eOp oAdd (ePeek 1) (eL (lDisp (aCons (eErr "Clash" (eVar 0)) (aCons (eErr "InvalidHall" (eVar 0)) (aCons (eErr "InvalidScript" (eVar 0)) (aCons (eErr "InvalidLog" (eVar 0)) (aNil)))))))))
  (sSeq (sSet 1 (eOp oAdd (ePeek 1) (eL (lDisp (aCons (eErr "InvalidText" (eVar 0)) (aCons (eErr "StillNeeded" (eVar 0)) (aNil)))))))
  (sRet (eVar 1))))))))
def m__law_first : FM := fnM 1 2 b__law_first
theorem sc__law_first : FnScope ["_law_thing", "_law_found"] ["_law_thing"] (defScope s__law_first) := ⟨rfl, rfl, rfl, by decide +kernel, rfl, by decide +kernel, by decide +kernel⟩
theorem ok__law_first (T : Txt0 P K mg ) : OkF P w K mg base 2 "_law_first" ["_law_thing"] m__law_first := by
  refine okF_mk (nm := ["_law_thing", "_law_found"]) T.F__law_first sc__law_first (fun _ _ _ _ _ _ us hl => match us, hl with | [_], _ => rfl) (fun f cdv A outer s H E hr => ?_)
  have hr1 : Room 1 _ := hr.mono (by decide)
  exact s_cons (s_set (i := 1) sc__law_first.nd (d_give (d_lst (a_cons (d_err T.lf_InvalidTerm (T.n_super) hr1 (d_var 0)) (a_cons (d_err T.lf_InvalidRule (T.n_super) hr1 (d_var 0)) (a_cons (d_err T.lf_NotFlat (T.n_super) hr1 (d_var 0)) (a_cons (d_err T.lf_InvalidPath (T.n_super) hr1 (d_var 0)) (a_nil))))))))
      (s_cons (s_set (i := 1) sc__law_first.nd (d_add (d_look 1) (d_peek (d_give (d_lst (a_cons (d_err T.lf_InvalidRows (T.n_super) hr1 (d_var 0)) (a_cons (d_err T.lf_InvalidHours (T.n_super) hr1 (d_var 0)) (a_cons (d_err T.lf_InvalidWhole (T.n_super) hr1 (d_var 0)) (a_cons (d_err T.lf_InvalidCount (T.n_super) hr1 (d_var 0)) (a_nil))))))))))
      (s_cons (s_set (i := 1) sc__law_first.nd (d_add (d_look 1) (d_peek (d_give (d_lst (a_cons (d_err T.lf_InvalidName (T.n_super) hr1 (d_var 0)) (a_cons (d_err T.lf_InvalidNames (T.n_super) hr1 (d_var 0)) (a_cons (d_err T.lf_UnknownName (T.n_super) hr1 (d_var 0)) (a_cons (d_err T.lf_TakenName (T.n_super) hr1 (d_var 0)) (a_nil))))))))))
      (s_cons (s_set (i := 1) sc__law_first.nd (d_add (d_look 1) (d_peek (d_give (d_lst (a_cons (d_err T.lf_InvalidRules (T.n_super) hr1 (d_var 0)) (a_cons (d_err T.lf_InvalidBook (T.n_super) hr1 (d_var 0)) (a_cons (d_err T.lf_Unlike (T.n_super) hr1 (d_var 0)) (a_cons (d_err T.lf_InvalidLates (T.n_super) hr1 (d_var 0)) (a_nil))))))))))
      (s_cons (s_set (i := 1) sc__law_first.nd (d_add (d_look 1) (d_peek (d_give (d_lst (a_cons (d_err T.lf_InvalidCorners (T.n_super) hr1 (d_var 0)) (a_cons (d_err T.lf_InvalidStair (T.n_super) hr1 (d_var 0)) (a_cons (d_err T.lf_InvalidWindows (T.n_super) hr1 (d_var 0)) (a_cons (d_err T.lf_InvalidSights (T.n_super) hr1 (d_var 0)) (a_nil))))))))))
      (s_cons (s_set (i := 1) sc__law_first.nd (d_add (d_look 1) (d_peek (d_give (d_lst (a_cons (d_err T.lf_Clash (T.n_super) hr1 (d_var 0)) (a_cons (d_err T.lf_InvalidHall (T.n_super) hr1 (d_var 0)) (a_cons (d_err T.lf_InvalidScript (T.n_super) hr1 (d_var 0)) (a_cons (d_err T.lf_InvalidLog (T.n_super) hr1 (d_var 0)) (a_nil))))))))))
      (s_cons (s_set (i := 1) sc__law_first.nd (d_add (d_look 1) (d_peek (d_give (d_lst (a_cons (d_err T.lf_InvalidText (T.n_super) hr1 (d_var 0)) (a_cons (d_err T.lf_StillNeeded (T.n_super) hr1 (d_var 0)) (a_nil))))))))
      (s_one (s_ret (d_var 1)))))))))
/-! ### _law_code -/
def b__law_code : SS := sSeq (sSet 1 (eL (lDisp (aCons (eBi (gIsX ES) (aCons (ePeek 0) (aCons (eC (.cls "InvalidTerm")) (aNil)))) (aCons (eBi (gIsX ES) (aCons (ePeek 0) (aCons (eC (.cls "InvalidRule")) (aNil)))) (aCons (eBi (gIsX ES) (aCons (ePeek 0) (aCons (eC (.cls "NotFlat")) (aNil)))) (aNil)))))))
  (sSeq (sSet 1 (eOp oAdd (ePeek 1) (eL (lDisp (aCons (eBi (gIsX ES) (aCons (ePeek 0) (aCons (eC (.cls "InvalidPath")) (aNil)))) (aCons (eBi (gIsX ES) (aCons (ePeek 0) (aCons (eC (.cls "InvalidRows")) (aNil)))) (aCons (eBi (gIsX ES) (aCons (ePeek 0) (aCons (eC (.cls "InvalidHours")) (aNil)))) (aNil))))))))
  (sSeq (sSet 1 (eOp oAdd (ePeek 1) (eL (lDisp (aCons (eBi (gIsX ES) (aCons (ePeek 0) (aCons (eC (.cls "InvalidWhole")) (aNil)))) (aCons (eBi (gIsX ES) (aCons (ePeek 0) (aCons (eC (.cls "InvalidCount")) (aNil)))) (aCons (eBi (gIsX ES) (aCons (ePeek 0) (aCons (eC (.cls "InvalidName")) (aNil)))) (aNil))))))))
  (sSeq (sSet 1 (eOp oAdd (ePeek 1) (eL (lDisp (aCons (eBi (gIsX ES) (aCons (ePeek 0) (aCons (eC (.cls "InvalidNames")) (aNil)))) (aCons (eBi (gIsX ES) (aCons (ePeek 0) (aCons (eC (.cls "UnknownName")) (aNil)))) (aCons (eBi (gIsX ES) (aCons (ePeek 0) (aCons (eC (.cls "TakenName")) (aNil)))) (aNil))))))))
  (sSeq (sSet 1 (eOp oAdd (ePeek 1) (eL (lDisp (aCons (eBi (gIsX ES) (aCons (ePeek 0) (aCons (eC (.cls "InvalidRules")) (aNil)))) (aCons (eBi (gIsX ES) (aCons (ePeek 0) (aCons (eC (.cls "InvalidBook")) (aNil)))) (aCons (eBi (gIsX ES) (aCons (ePeek 0) (aCons (eC (.cls "Unlike")) (aNil)))) (aNil))))))))
  (sSeq (sSet 1 (eOp oAdd (ePeek 1) (eL (lDisp (aCons (eBi (gIsX ES) (aCons (ePeek 0) (aCons (eC (.cls "InvalidLates")) (aNil)))) (aCons (eBi (gIsX ES) (aCons (ePeek 0) (aCons (eC (.cls "InvalidCorners")) (aNil)))) (aNil)))))))
  (sSeq (sSet 1 (eOp oAdd (ePeek 1) (eL (lDisp (aCons (eBi (gIsX ES) (aCons (ePeek 0) (aCons (eC (.cls "InvalidStair")) (aNil)))) (aNil))))))
  (sSeq (sSet 1 (eOp oAdd (ePeek 1) (eL (lDisp (aCons (eBi (gIsX ES) (aCons (ePeek 0) (aCons (eC (.cls "InvalidWindows")) (aNil)))) (aCons (eBi (gIsX ES) (aCons (ePeek 0) (aCons (eC (.cls "InvalidSights")) (aNil)))) (aCons (eBi (gIsX ES) (aCons (ePeek 0) (aCons (eC (.cls "Clash")) (aNil)))) (aNil))))))))
  (sSeq (sSet 1 (eOp oAdd (ePeek 1) (eL (lDisp (aCons (eBi (gIsX ES) (aCons (ePeek 0) (aCons (eC (.cls "InvalidHall")) (aNil)))) (aCons (eBi (gIsX ES) (aCons (ePeek 0) (aCons (eC (.cls "InvalidScript")) (aNil)))) (aCons (eBi (gIsX ES) (aCons (ePeek 0) (aCons (eC (.cls "InvalidLog")) (aNil)))) (aNil))))))))
  (sSeq (sSet 1 (eOp oAdd (ePeek 1) (eL (lDisp (aCons (eBi (gIsX ES) (aCons (ePeek 0) (aCons (eC (.cls "InvalidText")) (aNil)))) (aCons (eBi (gIsX ES) (aCons (ePeek 0) (aCons (eC (.cls "StillNeeded")) (aNil)))) (aNil)))))))
  (sSeq (sSet 1 (eOp oAdd (ePeek 1) (eL (lDisp (aCons (eBi (gIsX ES) (aCons (ePeek 0) (aCons (eC (.cls "NothingToUndo")) (aNil)))) (aCons (eBi (gIsX ES) (aCons (ePeek 0) (aCons (eC (.cls "NothingToRedo")) (aNil)))) (aNil)))))))
  (sRet (eL (lComp (iRg1 (aCons (eBi gLen (aCons (ePeek 1) (aNil))) (aNil))) (asgN 2) (bOf (eOp oIx (ePeek 1) (ePeek 2))) (eVar 2) [2])))))))))))))
def m__law_code : FM := fnM 1 3 b__law_code
theorem sc__law_code : FnScope ["_law_error", "_law_found", "_law_at"] ["_law_error"] (defScope s__law_code) := ⟨rfl, rfl, rfl, by decide +kernel, rfl, by decide +kernel, by decide +kernel⟩
theorem ok__law_code (T : Txt0 P K mg ) : OkF P w K mg base 1 "_law_code" ["_law_error"] m__law_code := by
  refine okF_mk (nm := ["_law_error", "_law_found", "_law_at"]) T.F__law_code sc__law_code (fun _ _ _ _ _ _ us hl => match us, hl with | [_], _ => rfl) (fun f cdv A outer s H E hr => ?_)
  exact s_cons (s_set (i := 1) sc__law_code.nd (d_give (d_lst (a_cons (d_isX T.xi (T.n_isinstance) (p_cons (d_look 0) (p_cons (d_peek (d_clsX T.cx_InvalidTerm)) (p_nil)))) (a_cons (d_isX T.xi (T.n_isinstance) (p_cons (d_look 0) (p_cons (d_peek (d_clsX T.cx_InvalidRule)) (p_nil)))) (a_cons (d_isX T.xi (T.n_isinstance) (p_cons (d_look 0) (p_cons (d_peek (d_clsX T.cx_NotFlat)) (p_nil)))) (a_nil)))))))
      (s_cons (s_set (i := 1) sc__law_code.nd (d_add (d_look 1) (d_peek (d_give (d_lst (a_cons (d_isX T.xi (T.n_isinstance) (p_cons (d_look 0) (p_cons (d_peek (d_clsX T.cx_InvalidPath)) (p_nil)))) (a_cons (d_isX T.xi (T.n_isinstance) (p_cons (d_look 0) (p_cons (d_peek (d_clsX T.cx_InvalidRows)) (p_nil)))) (a_cons (d_isX T.xi (T.n_isinstance) (p_cons (d_look 0) (p_cons (d_peek (d_clsX T.cx_InvalidHours)) (p_nil)))) (a_nil)))))))))
      (s_cons (s_set (i := 1) sc__law_code.nd (d_add (d_look 1) (d_peek (d_give (d_lst (a_cons (d_isX T.xi (T.n_isinstance) (p_cons (d_look 0) (p_cons (d_peek (d_clsX T.cx_InvalidWhole)) (p_nil)))) (a_cons (d_isX T.xi (T.n_isinstance) (p_cons (d_look 0) (p_cons (d_peek (d_clsX T.cx_InvalidCount)) (p_nil)))) (a_cons (d_isX T.xi (T.n_isinstance) (p_cons (d_look 0) (p_cons (d_peek (d_clsX T.cx_InvalidName)) (p_nil)))) (a_nil)))))))))
      (s_cons (s_set (i := 1) sc__law_code.nd (d_add (d_look 1) (d_peek (d_give (d_lst (a_cons (d_isX T.xi (T.n_isinstance) (p_cons (d_look 0) (p_cons (d_peek (d_clsX T.cx_InvalidNames)) (p_nil)))) (a_cons (d_isX T.xi (T.n_isinstance) (p_cons (d_look 0) (p_cons (d_peek (d_clsX T.cx_UnknownName)) (p_nil)))) (a_cons (d_isX T.xi (T.n_isinstance) (p_cons (d_look 0) (p_cons (d_peek (d_clsX T.cx_TakenName)) (p_nil)))) (a_nil)))))))))
      (s_cons (s_set (i := 1) sc__law_code.nd (d_add (d_look 1) (d_peek (d_give (d_lst (a_cons (d_isX T.xi (T.n_isinstance) (p_cons (d_look 0) (p_cons (d_peek (d_clsX T.cx_InvalidRules)) (p_nil)))) (a_cons (d_isX T.xi (T.n_isinstance) (p_cons (d_look 0) (p_cons (d_peek (d_clsX T.cx_InvalidBook)) (p_nil)))) (a_cons (d_isX T.xi (T.n_isinstance) (p_cons (d_look 0) (p_cons (d_peek (d_clsX T.cx_Unlike)) (p_nil)))) (a_nil)))))))))
      (s_cons (s_set (i := 1) sc__law_code.nd (d_add (d_look 1) (d_peek (d_give (d_lst (a_cons (d_isX T.xi (T.n_isinstance) (p_cons (d_look 0) (p_cons (d_peek (d_clsX T.cx_InvalidLates)) (p_nil)))) (a_cons (d_isX T.xi (T.n_isinstance) (p_cons (d_look 0) (p_cons (d_peek (d_clsX T.cx_InvalidCorners)) (p_nil)))) (a_nil))))))))
      (s_cons (s_set (i := 1) sc__law_code.nd (d_add (d_look 1) (d_peek (d_give (d_lst (a_cons (d_isX T.xi (T.n_isinstance) (p_cons (d_look 0) (p_cons (d_peek (d_clsX T.cx_InvalidStair)) (p_nil)))) (a_nil)))))))
      (s_cons (s_set (i := 1) sc__law_code.nd (d_add (d_look 1) (d_peek (d_give (d_lst (a_cons (d_isX T.xi (T.n_isinstance) (p_cons (d_look 0) (p_cons (d_peek (d_clsX T.cx_InvalidWindows)) (p_nil)))) (a_cons (d_isX T.xi (T.n_isinstance) (p_cons (d_look 0) (p_cons (d_peek (d_clsX T.cx_InvalidSights)) (p_nil)))) (a_cons (d_isX T.xi (T.n_isinstance) (p_cons (d_look 0) (p_cons (d_peek (d_clsX T.cx_Clash)) (p_nil)))) (a_nil)))))))))
      (s_cons (s_set (i := 1) sc__law_code.nd (d_add (d_look 1) (d_peek (d_give (d_lst (a_cons (d_isX T.xi (T.n_isinstance) (p_cons (d_look 0) (p_cons (d_peek (d_clsX T.cx_InvalidHall)) (p_nil)))) (a_cons (d_isX T.xi (T.n_isinstance) (p_cons (d_look 0) (p_cons (d_peek (d_clsX T.cx_InvalidScript)) (p_nil)))) (a_cons (d_isX T.xi (T.n_isinstance) (p_cons (d_look 0) (p_cons (d_peek (d_clsX T.cx_InvalidLog)) (p_nil)))) (a_nil)))))))))
      (s_cons (s_set (i := 1) sc__law_code.nd (d_add (d_look 1) (d_peek (d_give (d_lst (a_cons (d_isX T.xi (T.n_isinstance) (p_cons (d_look 0) (p_cons (d_peek (d_clsX T.cx_InvalidText)) (p_nil)))) (a_cons (d_isX T.xi (T.n_isinstance) (p_cons (d_look 0) (p_cons (d_peek (d_clsX T.cx_StillNeeded)) (p_nil)))) (a_nil))))))))
      (s_cons (s_set (i := 1) sc__law_code.nd (d_add (d_look 1) (d_peek (d_give (d_lst (a_cons (d_isX T.xi (T.n_isinstance) (p_cons (d_look 0) (p_cons (d_peek (d_clsX T.cx_NothingToUndo)) (p_nil)))) (a_cons (d_isX T.xi (T.n_isinstance) (p_cons (d_look 0) (p_cons (d_peek (d_clsX T.cx_NothingToRedo)) (p_nil)))) (a_nil))))))))
      (s_one (s_ret (d_give (d_lc rfl sc__law_code.nd (i_rg1 (T.n_range) (p_cons (d_peek (d_len (T.n_len) (p_cons (d_look 1) (p_nil)))) (p_nil))) (blkOk_by (own := [("_law_at", 2)]) (by first | (show blkC ["_law_error", "_law_found", "_law_at"] (defScope s__law_code) _ _ = true; decide +kernel) | kernel_rfl | rfl)) (fun _ _ _ _ _ => t_name (i := 2) sc__law_code.nd) (gok_name 2) (by decide) (fun _ _ _ _ _ => pts_oneT (d_test (d_peek (d_ix (d_look 1) (d_look 2))))) (fun _ _ _ _ _ => d_var 2)))))))))))))))
/-! ### _law_is_error -/
def b__law_is_error : SS := sRet (eAnd (eBi (gIsX ES) (aCons (ePeek 0) (aCons (eC (.cls "LeafError")) (aNil)))) (eBi (gIsX ES) (aCons (ePeek 0) (aCons (eC (.ty "ValueError")) (aNil)))))
def m__law_is_error : FM := fnM 1 1 b__law_is_error
theorem sc__law_is_error : FnScope ["_law_error"] ["_law_error"] (defScope s__law_is_error) := ⟨rfl, rfl, rfl, by decide +kernel, rfl, by decide +kernel, by decide +kernel⟩
theorem ok__law_is_error (T : Txt0 P K mg ) : OkF P w K mg base 1 "_law_is_error" ["_law_error"] m__law_is_error := by
  refine okF_mk (nm := ["_law_error"]) T.F__law_is_error sc__law_is_error (fun _ _ _ _ _ _ us hl => match us, hl with | [_], _ => rfl) (fun f cdv A outer s H E hr => ?_)
  exact s_one (s_ret (v_and (d_peek (d_isX T.xi (T.n_isinstance) (p_cons (d_look 0) (p_cons (d_peek (d_clsX T.cx_LeafError)) (p_nil))))) (v_one (d_isX T.xi (T.n_isinstance) (p_cons (d_look 0) (p_cons (d_peek (d_ty (by rfl) (T.n_ValueError) (by rfl))) (p_nil)))))))
/-! ### _law_right -/
def b__law_right : SS := sSeq (sIf (bOf (eOp oNe (eL (lComp (iSeq (eVar 0)) (asgN 2) (bYes) (eCall m__law_code [] (aCons (eVar 2) (aNil))) [2])) (eL (lComp (iRg1 (aCons (eC (.int 26)) (aNil))) (asgN 3) (bYes) (eL (lDisp (aCons (eVar 3) (aNil)))) [3]))))
  (sRet (eC (.bl false)))
  (sNil))
  (sRet (eOp oEq (eL (lComp (iSeq (eVar 0)) (asgN 2) (bOr (bNot (bOf (eCall m__law_is_error [] (aCons (eVar 2) (aNil))))) (bOf (eOp oNe (eBi gReprZ (aCons (eErrV EVS (eVar 2)) (aNil))) (ePeek 1)))) (eVar 2) [2])) (eL (lDisp (aNil)))))
def m__law_right : FM := fnM 2 4 b__law_right
theorem sc__law_right : FnScope ["_law_some", "_law_noted", "_law_error", "_law_at"] ["_law_some", "_law_noted"] (defScope s__law_right) := ⟨rfl, rfl, rfl, by decide +kernel, rfl, by decide +kernel, by decide +kernel⟩
theorem ok__law_right (T : Txt0 P K mg ) : OkD P w K mg base 2 "_law_right" ["_law_some", "_law_noted"] m__law_right := by
  refine okD_mk (nm := ["_law_some", "_law_noted", "_law_error", "_law_at"]) T.F__law_right sc__law_right (fun _ _ _ _ _ _ us hl => match us, hl with | [_, _], _ => rfl) (fun f cdv A outer s H E hr hgd => ?_)
  have hr1 : Room 1 _ := hr.mono (by decide)
  exact s_cons (s_if (d_testC (d_peek (d_ne hr.units (d_peek (d_give (d_lc rfl sc__law_right.nd (i_seq (d_var 0)) (blkOk_by (own := [("_law_error", 2)]) (by first | (show blkC ["_law_some", "_law_noted", "_law_error", "_law_at"] (defScope s__law_right) _ _ = true; decide +kernel) | kernel_rfl | rfl)) (fun _ _ _ _ _ => t_name (i := 2) sc__law_right.nd) (gok_name 2) (by decide) (fun _ _ _ _ _ => pts_nilT) (fun _ _ _ _ _ => c_call (ok__law_code T) hr1 (a_cons (d_var 2) (a_nil)))))) (d_peek (d_give (d_lc rfl sc__law_right.nd (i_rg1 (T.n_range) (p_cons (d_peek (d_int)) (p_nil))) (blkOk_by (own := [("_law_at", 3)]) (by first | (show blkC ["_law_some", "_law_noted", "_law_error", "_law_at"] (defScope s__law_right) _ _ = true; decide +kernel) | kernel_rfl | rfl)) (fun _ _ _ _ _ => t_name (i := 3) sc__law_right.nd) (gok_name 3) (by decide) (fun _ _ _ _ _ => pts_nilT) (fun _ _ _ _ _ => d_give (d_lst (a_cons (d_var 3) (a_nil))))))))))
      (s_one (s_ret (d_bl)))
      (s_nil))
      (s_one (s_ret (d_eq hr.units (d_peek (d_give (d_lc rfl sc__law_right.nd (i_seq (d_var 0)) (blkOk_by (own := [("_law_error", 2)]) (by first | (show blkC ["_law_some", "_law_noted", "_law_error", "_law_at"] (defScope s__law_right) _ _ = true; decide +kernel) | kernel_rfl | rfl)) (fun _ _ _ _ _ => t_name (i := 2) sc__law_right.nd) (gok_name 2) (by decide) (fun _ _ _ _ _ => pts_oneT (w_pt (w_or (d_not (d_test (d_peek (c_call (ok__law_is_error T) hr1 (a_cons (d_var 2) (a_nil)))))) (w_or1 (d_testC (d_peek (d_ne hr.units (d_peek (d_reprZ hgd (u80 hr) (T.n_repr) (p_cons (d_peek (d_errV T.ev (d_var 2))) (p_nil)))) (d_look 1)))))))) (fun _ _ _ _ _ => d_var 2)))) (d_peek (d_give (d_lst (a_nil)))))))
/-! ### _law_bare -/
def b__law_bare : SS := sSeq (sSet 0 (eL (lDisp (aCons (eErr0 "InvalidTerm") (aCons (eErr0 "InvalidRule") (aCons (eErr0 "NotFlat") (aCons (eErr0 "InvalidPath") (aNil))))))))
  (sSeq (sSet 0 (eOp oAdd (ePeek 0) (eL (lDisp (aCons (eErr0 "InvalidRows") (aCons (eErr0 "InvalidHours") (aCons (eErr0 "InvalidWhole") (aCons (eErr0 "InvalidCount") (aNil)))))))))
  (sSeq (sSet 0 (eOp oAdd (ePeek 0) (eL (lDisp (aCons (eErr0 "InvalidName") (aCons (eErr0 "InvalidNames") (aCons (eErr0 "UnknownName") (aCons (eErr0 "TakenName") (aNil)))))))))
  (sSeq (sSet 0 (eOp oAdd (ePeek 0) (eL (lDisp (aCons (eErr0 "InvalidRules") (aCons (eErr0 "InvalidBook") (aCons (eErr0 "Unlike") (aCons (eErr0 "InvalidLates") (aNil)))))))))
  (sSeq (sSet 0 (eOp oAdd (ePeek 0) (eL (lDisp (aCons (eErr0 "InvalidCorners") (aCons (eErr0 "InvalidStair") (aCons (eErr0 "InvalidWindows") (aCons (eErr0 "InvalidSights") (aNil)))))))))
  (sSeq (sSet 0 (eOp oAdd (ePeek 0) (eL (lDisp (aCons (eErr0 "Clash") (aCons (eErr0 "InvalidHall") (aCons (eErr0 "InvalidScript") (aCons (eErr0 "InvalidLog") (aNil)))))))))
  (sSeq (sSet 0 (eOp oAdd (ePeek 0) (eL (lDisp (aCons (eErr0 "InvalidText") (aCons (eErr0 "StillNeeded") (aNil)))))))
  (sRet (eVar 0))))))))
def m__law_bare : FM := fnM 0 1 b__law_bare
theorem sc__law_bare : FnScope ["_law_found"] [] (defScope s__law_bare) := ⟨rfl, rfl, rfl, by decide +kernel, rfl, by decide +kernel, by decide +kernel⟩
theorem ok__law_bare (T : Txt0 P K mg ) : OkF P w K mg base 2 "_law_bare" [] m__law_bare := by
  refine okF_mk (nm := ["_law_found"]) T.F__law_bare sc__law_bare (fun _ _ _ _ _ _ us hl => match us, hl with | [], _ => rfl) (fun f cdv A outer s H E hr => ?_)
  have hr1 : Room 1 _ := hr.mono (by decide)
  exact s_cons (s_set (i := 0) sc__law_bare.nd (d_give (d_lst (a_cons (d_err0 T.lf_InvalidTerm (T.n_super) hr1) (a_cons (d_err0 T.lf_InvalidRule (T.n_super) hr1) (a_cons (d_err0 T.lf_NotFlat (T.n_super) hr1) (a_cons (d_err0 T.lf_InvalidPath (T.n_super) hr1) (a_nil))))))))
      (s_cons (s_set (i := 0) sc__law_bare.nd (d_add (d_look 0) (d_peek (d_give (d_lst (a_cons (d_err0 T.lf_InvalidRows (T.n_super) hr1) (a_cons (d_err0 T.lf_InvalidHours (T.n_super) hr1) (a_cons (d_err0 T.lf_InvalidWhole (T.n_super) hr1) (a_cons (d_err0 T.lf_InvalidCount (T.n_super) hr1) (a_nil))))))))))
      (s_cons (s_set (i := 0) sc__law_bare.nd (d_add (d_look 0) (d_peek (d_give (d_lst (a_cons (d_err0 T.lf_InvalidName (T.n_super) hr1) (a_cons (d_err0 T.lf_InvalidNames (T.n_super) hr1) (a_cons (d_err0 T.lf_UnknownName (T.n_super) hr1) (a_cons (d_err0 T.lf_TakenName (T.n_super) hr1) (a_nil))))))))))
      (s_cons (s_set (i := 0) sc__law_bare.nd (d_add (d_look 0) (d_peek (d_give (d_lst (a_cons (d_err0 T.lf_InvalidRules (T.n_super) hr1) (a_cons (d_err0 T.lf_InvalidBook (T.n_super) hr1) (a_cons (d_err0 T.lf_Unlike (T.n_super) hr1) (a_cons (d_err0 T.lf_InvalidLates (T.n_super) hr1) (a_nil))))))))))
      (s_cons (s_set (i := 0) sc__law_bare.nd (d_add (d_look 0) (d_peek (d_give (d_lst (a_cons (d_err0 T.lf_InvalidCorners (T.n_super) hr1) (a_cons (d_err0 T.lf_InvalidStair (T.n_super) hr1) (a_cons (d_err0 T.lf_InvalidWindows (T.n_super) hr1) (a_cons (d_err0 T.lf_InvalidSights (T.n_super) hr1) (a_nil))))))))))
      (s_cons (s_set (i := 0) sc__law_bare.nd (d_add (d_look 0) (d_peek (d_give (d_lst (a_cons (d_err0 T.lf_Clash (T.n_super) hr1) (a_cons (d_err0 T.lf_InvalidHall (T.n_super) hr1) (a_cons (d_err0 T.lf_InvalidScript (T.n_super) hr1) (a_cons (d_err0 T.lf_InvalidLog (T.n_super) hr1) (a_nil))))))))))
      (s_cons (s_set (i := 0) sc__law_bare.nd (d_add (d_look 0) (d_peek (d_give (d_lst (a_cons (d_err0 T.lf_InvalidText (T.n_super) hr1) (a_cons (d_err0 T.lf_StillNeeded (T.n_super) hr1) (a_nil))))))))
      (s_one (s_ret (d_var 0)))))))))
/-! ### law -/
def b_law : SS := sSeq (sFor (iSeq (eCall m__law_purses [] (aCons (eVar 0) (aCons (eC (.int 3)) (aNil))))) (asgN 1)
  (sSeq (sSet 2 (eCall m__law_word [] (aCons (eVar 1) (aNil))))
  (sSeq (sSet 3 (eL (lDisp (aCons (eC (.int 0)) (aCons (eC (.str "")) (aCons (eCel (lDisp (aNil))) (aCons (eC (.bl false)) (aCons (eTup (aNil)) (aCons (eD (eBi gDictP (aCons (eL (lDisp (aNil))) (aNil)))) (aNil))))))))))
  (sSeq (sSet 4 (eCall m__law_one_of [] (aCons (eVar 1) (aCons (eOp oAdd (eL (lDisp (aCons (eCel (lDisp (aCons (eVar 2) (aNil)))) (aCons (eTup (aCons (eVar 2) (aCons (eC (.int 1)) (aNil)))) (aCons (eVar 2) (aCons (eC .non) (aCons (eC (.bl true)) (aCons (eCel (lDisp (aCons (eTup (aCons (eVar 2) (aCons (eL (lDisp (aNil))) (aNil)))) (aNil)))) (aCons (eCel (lDisp (aCons (eL (lDisp (aCons (eVar 2) (aCons (eTup (aNil)) (aNil))))) (aNil)))) (aNil)))))))))) (ePeek 3)) (aNil)))))
  (sFor (iSeq (eTup (aCons (eCall m__law_first [] (aCons (eVar 4) (aNil))) (aCons (eCall m__law_named [] (aCons (eVar 4) (aNil))) (aNil))))) (asgN 5)
  (sSeq (sIf (bNot (bOf (eCall m__law_right [] (aCons (eVar 5) (aCons (eBi gReprZ (aCons (ePeek 4) (aNil))) (aNil))))))
  (sRet (eC (.bl false)))
  (sNil))
  (sIf (bOf (eBi (gIsi []) (aCons (ePeek 4) (aCons (eC (.ty "list")) (aNil)))))
  (sSeq (sAppC (eVar 4) (eC (.str "later")))
  (sSeq (sIf (bOf (eOp oNe (eL (lComp (iSeq (eVar 5)) (asgN 6) (bOf (eOp oNe (eBi gReprZ (aCons (eErrV EVS (eVar 6)) (aNil))) (eBi gReprZ (aCons (ePeek 4) (aNil))))) (eVar 6) [6])) (eL (lDisp (aNil)))))
  (sRet (eC (.bl false)))
  (sNil))
  (sPopC (eVar 4))))
  (sNil))))))))
  (sSeq (sFor (iSeq (eTup (aCons (eC (.int 0)) (aCons (eC (.str "")) (aCons (eC (.bl false)) (aCons (eTup (aNil)) (aNil))))))) (asgN 4)
  (sIf (bOr (bNot (bOf (eCall m__law_right [] (aCons (eCall m__law_first [] (aCons (eVar 4) (aNil))) (aCons (eBi gReprZ (aCons (ePeek 4) (aNil))) (aNil)))))) (bNot (bOf (eCall m__law_right [] (aCons (eCall m__law_named [] (aCons (eVar 4) (aNil))) (aCons (eBi gReprZ (aCons (ePeek 4) (aNil))) (aNil)))))))
  (sRet (eC (.bl false)))
  (sNil)))
  (sSeq (sIf (bNot (bOf (eCall m__law_right [] (aCons (eCall m__law_bare [] aNil) (aCons (eC (.str "None")) (aNil))))))
  (sRet (eC (.bl false)))
  (sNil))
  (sSeq (sSet 7 (eL (lDisp (aCons (eErrB "NothingToUndo") (aCons (eErrB "NothingToRedo") (aNil))))))
  (sSeq (sIf (bOr (bOf (eOp oNe (eL (lComp (iSeq (eVar 7)) (asgN 6) (bYes) (eCall m__law_code [] (aCons (eVar 6) (aNil))) [6])) (eL (lDisp (aCons (eL (lDisp (aCons (eC (.int 26)) (aNil)))) (aCons (eL (lDisp (aCons (eC (.int 27)) (aNil)))) (aNil))))))) (bOr (bNot (bOf (eCall m__law_is_error [] (aCons (eOp oIx (ePeek 7) (eC (.int 0))) (aNil))))) (bNot (bOf (eCall m__law_is_error [] (aCons (eOp oIx (ePeek 7) (eC (.int 1))) (aNil)))))))
  (sRet (eC (.bl false)))
  (sNil))
  (sRet (eAnd (eCall m__law_is_error [] (aCons (eErrB "LeafError") (aNil))) (eOp oEq (eCall m__law_code [] (aCons (eErrB "LeafError") (aNil))) (eL (lDisp (aNil))))))))))
def m_law : FM := fnM 1 8 b_law
theorem sc_law : FnScope ["_law_script", "_law_purse_here", "_law_word_here", "_law_falses", "_law_thing", "_law_some", "_law_error", "_law_rest"] ["_law_script"] (defScope s_law) := ⟨rfl, rfl, rfl, by decide +kernel, rfl, by decide +kernel, by decide +kernel⟩
theorem fn_law {fa : Addr} (T : Txt0 P K mg ) (hfa : mg "law" = some (.ref fa)) : ∃ fd : FuncData, (∀ (s : Shared) (u : Value), BindsTo s fd ⟨[u], []⟩ [("_law_script", u)]) ∧ ∀ base : Heap, FnD P w K mg base 4 fa fd ["_law_script"] (spM ⟨mg, K⟩ m_law 1) := by
  refine fn_end (nm := ["_law_script", "_law_purse_here", "_law_word_here", "_law_falses", "_law_thing", "_law_some", "_law_error", "_law_rest"]) T.F_law hfa sc_law (fun _ _ _ _ _ _ _ => rfl) (fun base f cdv A outer s H E hr hgd => ?_)
  have hr1 : Room 1 _ := hr.mono (by decide)
  have hr2 : Room 2 _ := hr.mono (by decide)
  have hr3 : Room 3 _ := hr.mono (by decide)
  exact s_cons (s_for PassesOwn.never rfl (i_seq (c_call (ok__law_purses T) hr2 (a_cons (d_var 0) (a_cons (d_int) (a_nil))))) (t_name (i := 1) sc_law.nd) (gok_name 1)
      (s_cons (s_set (i := 2) sc_law.nd (c_call (ok__law_word T) hr3 (a_cons (d_var 1) (a_nil))))
      (s_cons (s_set (i := 3) sc_law.nd (d_give (d_lst (a_cons (d_int) (a_cons (d_str) (a_cons (d_cell (d_lst (a_nil))) (a_cons (d_bl) (a_cons (d_tup (a_nil)) (a_cons (d_giveD (d_dictP rfl T.n_dict (p_cons (d_peek (d_give (d_lst (a_nil)))) (p_nil)))) (a_nil))))))))))
      (s_cons (s_set (i := 4) sc_law.nd (c_call (ok__law_one_of T) hr3 (a_cons (d_var 1) (a_cons (d_add (d_peek (d_give (d_lst (a_cons (d_cell (d_lst (a_cons (d_var 2) (a_nil)))) (a_cons (d_tup (a_cons (d_var 2) (a_cons (d_int) (a_nil)))) (a_cons (d_var 2) (a_cons (d_non) (a_cons (d_bl) (a_cons (d_cell (d_lst (a_cons (d_tup (a_cons (d_var 2) (a_cons (d_give (d_lst (a_nil))) (a_nil)))) (a_nil)))) (a_cons (d_cell (d_lst (a_cons (d_give (d_lst (a_cons (d_var 2) (a_cons (d_tup (a_nil)) (a_nil))))) (a_nil)))) (a_nil))))))))))) (d_look 3)) (a_nil)))))
      (s_one (s_for PassesOwn.never rfl (i_seq (d_tup (a_cons (c_call (ok__law_first T) hr2 (a_cons (d_var 4) (a_nil))) (a_cons (c_call (ok__law_named T) hr2 (a_cons (d_var 4) (a_nil))) (a_nil))))) (t_name (i := 5) sc_law.nd) (gok_name 5)
      (s_cons (s_if (d_not (d_test (d_peek (c_callD (ok__law_right T) hr2 hgd (a_cons (d_var 5) (a_cons (d_reprZ hgd (u80 hr) (T.n_repr) (p_cons (d_look 4) (p_nil))) (a_nil)))))))
      (s_one (s_ret (d_bl)))
      (s_nil))
      (s_one (s_if (d_test (d_peek (d_isi isi0 (T.n_isinstance) (p_cons (d_look 4) (p_cons (d_peek (d_ty (by rfl) (T.n_list) (by rfl))) (p_nil))))))
      (s_cons (s_appC (d_var 4) (d_str))
      (s_cons (s_if (d_testC (d_peek (d_ne hr.units (d_peek (d_give (d_lc rfl sc_law.nd (i_seq (d_var 5)) (blkOk_by (own := [("_law_error", 6)]) (by first | (show blkC ["_law_script", "_law_purse_here", "_law_word_here", "_law_falses", "_law_thing", "_law_some", "_law_error", "_law_rest"] (defScope s_law) _ _ = true; decide +kernel) | kernel_rfl | rfl)) (fun _ _ _ _ _ => t_name (i := 6) sc_law.nd) (gok_name 6) (by decide) (fun _ _ _ _ _ => pts_oneT (d_testC (d_peek (d_ne hr.units (d_peek (d_reprZ hgd (u80 hr) (T.n_repr) (p_cons (d_peek (d_errV T.ev (d_var 6))) (p_nil)))) (d_peek (d_reprZ hgd (u80 hr) (T.n_repr) (p_cons (d_look 4) (p_nil)))))))) (fun _ _ _ _ _ => d_var 6)))) (d_peek (d_give (d_lst (a_nil)))))))
      (s_one (s_ret (d_bl)))
      (s_nil))
      (s_one (s_popC (d_var 4)))))
      (s_nil))))))))))
      (s_cons (s_for PassesOwn.never rfl (i_seq (d_tup (a_cons (d_int) (a_cons (d_str) (a_cons (d_bl) (a_cons (d_tup (a_nil)) (a_nil))))))) (t_name (i := 4) sc_law.nd) (gok_name 4)
      (s_one (s_if (w_pt (w_or (d_not (d_test (d_peek (c_callD (ok__law_right T) hr2 hgd (a_cons (c_call (ok__law_first T) hr2 (a_cons (d_var 4) (a_nil))) (a_cons (d_reprZ hgd (u80 hr) (T.n_repr) (p_cons (d_look 4) (p_nil))) (a_nil))))))) (w_or1 (d_not (d_test (d_peek (c_callD (ok__law_right T) hr2 hgd (a_cons (c_call (ok__law_named T) hr2 (a_cons (d_var 4) (a_nil))) (a_cons (d_reprZ hgd (u80 hr) (T.n_repr) (p_cons (d_look 4) (p_nil))) (a_nil))))))))))
      (s_one (s_ret (d_bl)))
      (s_nil))))
      (s_cons (s_if (d_not (d_test (d_peek (c_callD (ok__law_right T) hr2 hgd (a_cons (c_call0 (ok__law_bare T) hr2) (a_cons (d_str) (a_nil)))))))
      (s_one (s_ret (d_bl)))
      (s_nil))
      (s_cons (s_set (i := 7) sc_law.nd (d_give (d_lst (a_cons (d_errB T.bf_NothingToUndo) (a_cons (d_errB T.bf_NothingToRedo) (a_nil))))))
      (s_cons (s_if (w_pt (w_or (d_testC (d_peek (d_ne hr.units (d_peek (d_give (d_lc rfl sc_law.nd (i_seq (d_var 7)) (blkOk_by (own := [("_law_error", 6)]) (by first | (show blkC ["_law_script", "_law_purse_here", "_law_word_here", "_law_falses", "_law_thing", "_law_some", "_law_error", "_law_rest"] (defScope s_law) _ _ = true; decide +kernel) | kernel_rfl | rfl)) (fun _ _ _ _ _ => t_name (i := 6) sc_law.nd) (gok_name 6) (by decide) (fun _ _ _ _ _ => pts_nilT) (fun _ _ _ _ _ => c_call (ok__law_code T) hr1 (a_cons (d_var 6) (a_nil)))))) (d_peek (d_give (d_lst (a_cons (d_give (d_lst (a_cons (d_int) (a_nil)))) (a_cons (d_give (d_lst (a_cons (d_int) (a_nil)))) (a_nil))))))))) (w_or (d_not (d_test (d_peek (c_call (ok__law_is_error T) hr1 (a_cons (d_ix (d_look 7) (d_peek (d_int))) (a_nil)))))) (w_or1 (d_not (d_test (d_peek (c_call (ok__law_is_error T) hr1 (a_cons (d_ix (d_look 7) (d_peek (d_int))) (a_nil))))))))))
      (s_one (s_ret (d_bl)))
      (s_nil))
      (s_one (s_ret (v_and (d_peek (c_call (ok__law_is_error T) hr1 (a_cons (d_errB T.bf_LeafError) (a_nil)))) (v_one (d_eq hr.units (d_peek (c_call (ok__law_code T) hr1 (a_cons (d_errB T.bf_LeafError) (a_nil)))) (d_peek (d_give (d_lst (a_nil)))))))))))))
theorem end_mk {h : Heap} {fa : Addr} (X : K.In h) (G : h.Ns mainGlobals mg) (hfa : mg "law" = some (.ref fa))  (T : Txt0 P K mg ) :
    ∃ fd : FuncData, (∀ (s : Shared) (u : Value), BindsTo s fd ⟨[u], []⟩ [("_law_script", u)]) ∧ ∀ base : Heap, K.In base → base.Ns mainGlobals mg → FnD P w K mg base 4 fa fd ["_law_script"] (spM ⟨mg, K⟩ m_law 1) := by
  obtain ⟨fd, hb, hF⟩ := fn_law (P := P) (w := w) T hfa
  exact ⟨fd, hb, fun base _ _ => hF base⟩
end
end K01

namespace K01
open PySem L2 LW PyProof.Rows
theorem htxt {K : PySem.W.Frag} {h : Heap} {mg : PySem.Str → Option Value} (X : K.In h) (G : h.Ns mainGlobals mg) (c : SaysC hfa hfn hln hex K) : Txt0 HR.prog K mg  where
  F__law_bare := ft_of X G (c.d.fact 0 (f := .glo "_law_bare") rfl) (c.d.def_ 0 (d := D0) rfl)
  F__law_code := ft_of X G (c.d.fact 1 (f := .glo "_law_code") rfl) (c.d.def_ 1 (d := D1) rfl)
  F__law_draw := ft_of X G (c.d.fact 2 (f := .glo "_law_draw") rfl) (c.d.def_ 2 (d := D2) rfl)
  F__law_first := ft_of X G (c.d.fact 3 (f := .glo "_law_first") rfl) (c.d.def_ 3 (d := D3) rfl)
  F__law_is_error := ft_of X G (c.d.fact 4 (f := .glo "_law_is_error") rfl) (c.d.def_ 4 (d := D4) rfl)
  F__law_mixed := ft_of X G (c.d.fact 5 (f := .glo "_law_mixed") rfl) (c.d.def_ 5 (d := D5) rfl)
  F__law_named := ft_of X G (c.d.fact 6 (f := .glo "_law_named") rfl) (c.d.def_ 6 (d := D6) rfl)
  F__law_one_of := ft_of X G (c.d.fact 7 (f := .glo "_law_one_of") rfl) (c.d.def_ 7 (d := D7) rfl)
  F__law_purse := ft_of X G (c.d.fact 8 (f := .glo "_law_purse") rfl) (c.d.def_ 8 (d := D8) rfl)
  F__law_purses := ft_of X G (c.d.fact 9 (f := .glo "_law_purses") rfl) (c.d.def_ 9 (d := D9) rfl)
  F__law_right := ft_of X G (c.d.fact 10 (f := .glo "_law_right") rfl) (c.d.def_ 10 (d := D10) rfl)
  F__law_word := ft_of X G (c.d.fact 11 (f := .glo "_law_word") rfl) (c.d.def_ 11 (d := D11) rfl)
  F_law := ft_of X G (c.d.fact 12 (f := .glo "law") rfl) (c.d.def_ 12 (d := D12) rfl)
  bf_LeafError := bf_of X G (c.d.fact 13 (f := .glo "LeafError") rfl) (c.d.fact 14 (f := .exc "LeafError") rfl)
  bf_NothingToRedo := bf_of X G (c.d.fact 15 (f := .glo "NothingToRedo") rfl) (c.d.fact 16 (f := .exc "NothingToRedo") rfl)
  bf_NothingToUndo := bf_of X G (c.d.fact 17 (f := .glo "NothingToUndo") rfl) (c.d.fact 18 (f := .exc "NothingToUndo") rfl)
  cx_Clash := ⟨_, He.glo_ok X G (c.d.fact 19 (f := .glo "Clash") rfl)⟩
  cx_InvalidBook := ⟨_, He.glo_ok X G (c.d.fact 20 (f := .glo "InvalidBook") rfl)⟩
  cx_InvalidCorners := ⟨_, He.glo_ok X G (c.d.fact 21 (f := .glo "InvalidCorners") rfl)⟩
  cx_InvalidCount := ⟨_, He.glo_ok X G (c.d.fact 22 (f := .glo "InvalidCount") rfl)⟩
  cx_InvalidHall := ⟨_, He.glo_ok X G (c.d.fact 23 (f := .glo "InvalidHall") rfl)⟩
  cx_InvalidHours := ⟨_, He.glo_ok X G (c.d.fact 24 (f := .glo "InvalidHours") rfl)⟩
  cx_InvalidLates := ⟨_, He.glo_ok X G (c.d.fact 25 (f := .glo "InvalidLates") rfl)⟩
  cx_InvalidLog := ⟨_, He.glo_ok X G (c.d.fact 26 (f := .glo "InvalidLog") rfl)⟩
  cx_InvalidName := ⟨_, He.glo_ok X G (c.d.fact 27 (f := .glo "InvalidName") rfl)⟩
  cx_InvalidNames := ⟨_, He.glo_ok X G (c.d.fact 28 (f := .glo "InvalidNames") rfl)⟩
  cx_InvalidPath := ⟨_, He.glo_ok X G (c.d.fact 29 (f := .glo "InvalidPath") rfl)⟩
  cx_InvalidRows := ⟨_, He.glo_ok X G (c.d.fact 30 (f := .glo "InvalidRows") rfl)⟩
  cx_InvalidRule := ⟨_, He.glo_ok X G (c.d.fact 31 (f := .glo "InvalidRule") rfl)⟩
  cx_InvalidRules := ⟨_, He.glo_ok X G (c.d.fact 32 (f := .glo "InvalidRules") rfl)⟩
  cx_InvalidScript := ⟨_, He.glo_ok X G (c.d.fact 33 (f := .glo "InvalidScript") rfl)⟩
  cx_InvalidSights := ⟨_, He.glo_ok X G (c.d.fact 34 (f := .glo "InvalidSights") rfl)⟩
  cx_InvalidStair := ⟨_, He.glo_ok X G (c.d.fact 35 (f := .glo "InvalidStair") rfl)⟩
  cx_InvalidTerm := ⟨_, He.glo_ok X G (c.d.fact 36 (f := .glo "InvalidTerm") rfl)⟩
  cx_InvalidText := ⟨_, He.glo_ok X G (c.d.fact 37 (f := .glo "InvalidText") rfl)⟩
  cx_InvalidWhole := ⟨_, He.glo_ok X G (c.d.fact 38 (f := .glo "InvalidWhole") rfl)⟩
  cx_InvalidWindows := ⟨_, He.glo_ok X G (c.d.fact 39 (f := .glo "InvalidWindows") rfl)⟩
  cx_LeafError := ⟨_, He.glo_ok X G (c.d.fact 13 (f := .glo "LeafError") rfl)⟩
  cx_NotFlat := ⟨_, He.glo_ok X G (c.d.fact 40 (f := .glo "NotFlat") rfl)⟩
  cx_NothingToRedo := ⟨_, He.glo_ok X G (c.d.fact 15 (f := .glo "NothingToRedo") rfl)⟩
  cx_NothingToUndo := ⟨_, He.glo_ok X G (c.d.fact 17 (f := .glo "NothingToUndo") rfl)⟩
  cx_StillNeeded := ⟨_, He.glo_ok X G (c.d.fact 41 (f := .glo "StillNeeded") rfl)⟩
  cx_TakenName := ⟨_, He.glo_ok X G (c.d.fact 42 (f := .glo "TakenName") rfl)⟩
  cx_UnknownName := ⟨_, He.glo_ok X G (c.d.fact 43 (f := .glo "UnknownName") rfl)⟩
  cx_Unlike := ⟨_, He.glo_ok X G (c.d.fact 44 (f := .glo "Unlike") rfl)⟩
  ev := ev_cons (P := HR.prog) (lf_of (d := L17) X G (c.d.fact 36 (f := .glo "InvalidTerm") rfl) (file := "/claim/cut.py") rfl (by first | rfl | decide +kernel) (c.lf 17 (d := L17) rfl) (andL_ok (i := 17) c.ex rfl)) (ev_cons (P := HR.prog) (lf_of (d := L12) X G (c.d.fact 31 (f := .glo "InvalidRule") rfl) (file := "/claim/cut.py") rfl (by first | rfl | decide +kernel) (c.lf 12 (d := L12) rfl) (andL_ok (i := 12) c.ex rfl)) (ev_cons (P := HR.prog) (lf_of (d := L21) X G (c.d.fact 40 (f := .glo "NotFlat") rfl) (file := "/claim/cut.py") rfl (by first | rfl | decide +kernel) (c.lf 21 (d := L21) rfl) (andL_ok (i := 21) c.ex rfl)) (ev_cons (P := HR.prog) (lf_of (d := L10) X G (c.d.fact 29 (f := .glo "InvalidPath") rfl) (file := "/claim/cut.py") rfl (by first | rfl | decide +kernel) (c.lf 10 (d := L10) rfl) (andL_ok (i := 10) c.ex rfl)) (ev_cons (P := HR.prog) (lf_of (d := L11) X G (c.d.fact 30 (f := .glo "InvalidRows") rfl) (file := "/claim/cut.py") rfl (by first | rfl | decide +kernel) (c.lf 11 (d := L11) rfl) (andL_ok (i := 11) c.ex rfl)) (ev_cons (P := HR.prog) (lf_of (d := L5) X G (c.d.fact 24 (f := .glo "InvalidHours") rfl) (file := "/claim/cut.py") rfl (by first | rfl | decide +kernel) (c.lf 5 (d := L5) rfl) (andL_ok (i := 5) c.ex rfl)) (ev_cons (P := HR.prog) (lf_of (d := L19) X G (c.d.fact 38 (f := .glo "InvalidWhole") rfl) (file := "/claim/cut.py") rfl (by first | rfl | decide +kernel) (c.lf 19 (d := L19) rfl) (andL_ok (i := 19) c.ex rfl)) (ev_cons (P := HR.prog) (lf_of (d := L3) X G (c.d.fact 22 (f := .glo "InvalidCount") rfl) (file := "/claim/cut.py") rfl (by first | rfl | decide +kernel) (c.lf 3 (d := L3) rfl) (andL_ok (i := 3) c.ex rfl)) (ev_cons (P := HR.prog) (lf_of (d := L8) X G (c.d.fact 27 (f := .glo "InvalidName") rfl) (file := "/claim/cut.py") rfl (by first | rfl | decide +kernel) (c.lf 8 (d := L8) rfl) (andL_ok (i := 8) c.ex rfl)) (ev_cons (P := HR.prog) (lf_of (d := L9) X G (c.d.fact 28 (f := .glo "InvalidNames") rfl) (file := "/claim/cut.py") rfl (by first | rfl | decide +kernel) (c.lf 9 (d := L9) rfl) (andL_ok (i := 9) c.ex rfl)) (ev_cons (P := HR.prog) (lf_of (d := L24) X G (c.d.fact 43 (f := .glo "UnknownName") rfl) (file := "/claim/cut.py") rfl (by first | rfl | decide +kernel) (c.lf 24 (d := L24) rfl) (andL_ok (i := 24) c.ex rfl)) (ev_cons (P := HR.prog) (lf_of (d := L23) X G (c.d.fact 42 (f := .glo "TakenName") rfl) (file := "/claim/cut.py") rfl (by first | rfl | decide +kernel) (c.lf 23 (d := L23) rfl) (andL_ok (i := 23) c.ex rfl)) (ev_cons (P := HR.prog) (lf_of (d := L13) X G (c.d.fact 32 (f := .glo "InvalidRules") rfl) (file := "/claim/cut.py") rfl (by first | rfl | decide +kernel) (c.lf 13 (d := L13) rfl) (andL_ok (i := 13) c.ex rfl)) (ev_cons (P := HR.prog) (lf_of (d := L1) X G (c.d.fact 20 (f := .glo "InvalidBook") rfl) (file := "/claim/cut.py") rfl (by first | rfl | decide +kernel) (c.lf 1 (d := L1) rfl) (andL_ok (i := 1) c.ex rfl)) (ev_cons (P := HR.prog) (lf_of (d := L25) X G (c.d.fact 44 (f := .glo "Unlike") rfl) (file := "/claim/cut.py") rfl (by first | rfl | decide +kernel) (c.lf 25 (d := L25) rfl) (andL_ok (i := 25) c.ex rfl)) (ev_cons (P := HR.prog) (lf_of (d := L6) X G (c.d.fact 25 (f := .glo "InvalidLates") rfl) (file := "/claim/cut.py") rfl (by first | rfl | decide +kernel) (c.lf 6 (d := L6) rfl) (andL_ok (i := 6) c.ex rfl)) (ev_cons (P := HR.prog) (lf_of (d := L2) X G (c.d.fact 21 (f := .glo "InvalidCorners") rfl) (file := "/claim/cut.py") rfl (by first | rfl | decide +kernel) (c.lf 2 (d := L2) rfl) (andL_ok (i := 2) c.ex rfl)) (ev_cons (P := HR.prog) (lf_of (d := L16) X G (c.d.fact 35 (f := .glo "InvalidStair") rfl) (file := "/claim/cut.py") rfl (by first | rfl | decide +kernel) (c.lf 16 (d := L16) rfl) (andL_ok (i := 16) c.ex rfl)) (ev_cons (P := HR.prog) (lf_of (d := L20) X G (c.d.fact 39 (f := .glo "InvalidWindows") rfl) (file := "/claim/cut.py") rfl (by first | rfl | decide +kernel) (c.lf 20 (d := L20) rfl) (andL_ok (i := 20) c.ex rfl)) (ev_cons (P := HR.prog) (lf_of (d := L15) X G (c.d.fact 34 (f := .glo "InvalidSights") rfl) (file := "/claim/cut.py") rfl (by first | rfl | decide +kernel) (c.lf 15 (d := L15) rfl) (andL_ok (i := 15) c.ex rfl)) (ev_cons (P := HR.prog) (lf_of (d := L0) X G (c.d.fact 19 (f := .glo "Clash") rfl) (file := "/claim/cut.py") rfl (by first | rfl | decide +kernel) (c.lf 0 (d := L0) rfl) (andL_ok (i := 0) c.ex rfl)) (ev_cons (P := HR.prog) (lf_of (d := L4) X G (c.d.fact 23 (f := .glo "InvalidHall") rfl) (file := "/claim/cut.py") rfl (by first | rfl | decide +kernel) (c.lf 4 (d := L4) rfl) (andL_ok (i := 4) c.ex rfl)) (ev_cons (P := HR.prog) (lf_of (d := L14) X G (c.d.fact 33 (f := .glo "InvalidScript") rfl) (file := "/claim/cut.py") rfl (by first | rfl | decide +kernel) (c.lf 14 (d := L14) rfl) (andL_ok (i := 14) c.ex rfl)) (ev_cons (P := HR.prog) (lf_of (d := L7) X G (c.d.fact 26 (f := .glo "InvalidLog") rfl) (file := "/claim/cut.py") rfl (by first | rfl | decide +kernel) (c.lf 7 (d := L7) rfl) (andL_ok (i := 7) c.ex rfl)) (ev_cons (P := HR.prog) (lf_of (d := L18) X G (c.d.fact 37 (f := .glo "InvalidText") rfl) (file := "/claim/cut.py") rfl (by first | rfl | decide +kernel) (c.lf 18 (d := L18) rfl) (andL_ok (i := 18) c.ex rfl)) (ev_cons (P := HR.prog) (lf_of (d := L22) X G (c.d.fact 41 (f := .glo "StillNeeded") rfl) (file := "/claim/cut.py") rfl (by first | rfl | decide +kernel) (c.lf 22 (d := L22) rfl) (andL_ok (i := 22) c.ex rfl)) (ev_nil))))))))))))))))))))))))))
  lf_Clash := lf_of (d := L0) X G (c.d.fact 19 (f := .glo "Clash") rfl) (file := "/claim/cut.py") rfl (by first | rfl | decide +kernel) (c.lf 0 (d := L0) rfl) (andL_ok (i := 0) c.ex rfl)
  lf_InvalidBook := lf_of (d := L1) X G (c.d.fact 20 (f := .glo "InvalidBook") rfl) (file := "/claim/cut.py") rfl (by first | rfl | decide +kernel) (c.lf 1 (d := L1) rfl) (andL_ok (i := 1) c.ex rfl)
  lf_InvalidCorners := lf_of (d := L2) X G (c.d.fact 21 (f := .glo "InvalidCorners") rfl) (file := "/claim/cut.py") rfl (by first | rfl | decide +kernel) (c.lf 2 (d := L2) rfl) (andL_ok (i := 2) c.ex rfl)
  lf_InvalidCount := lf_of (d := L3) X G (c.d.fact 22 (f := .glo "InvalidCount") rfl) (file := "/claim/cut.py") rfl (by first | rfl | decide +kernel) (c.lf 3 (d := L3) rfl) (andL_ok (i := 3) c.ex rfl)
  lf_InvalidHall := lf_of (d := L4) X G (c.d.fact 23 (f := .glo "InvalidHall") rfl) (file := "/claim/cut.py") rfl (by first | rfl | decide +kernel) (c.lf 4 (d := L4) rfl) (andL_ok (i := 4) c.ex rfl)
  lf_InvalidHours := lf_of (d := L5) X G (c.d.fact 24 (f := .glo "InvalidHours") rfl) (file := "/claim/cut.py") rfl (by first | rfl | decide +kernel) (c.lf 5 (d := L5) rfl) (andL_ok (i := 5) c.ex rfl)
  lf_InvalidLates := lf_of (d := L6) X G (c.d.fact 25 (f := .glo "InvalidLates") rfl) (file := "/claim/cut.py") rfl (by first | rfl | decide +kernel) (c.lf 6 (d := L6) rfl) (andL_ok (i := 6) c.ex rfl)
  lf_InvalidLog := lf_of (d := L7) X G (c.d.fact 26 (f := .glo "InvalidLog") rfl) (file := "/claim/cut.py") rfl (by first | rfl | decide +kernel) (c.lf 7 (d := L7) rfl) (andL_ok (i := 7) c.ex rfl)
  lf_InvalidName := lf_of (d := L8) X G (c.d.fact 27 (f := .glo "InvalidName") rfl) (file := "/claim/cut.py") rfl (by first | rfl | decide +kernel) (c.lf 8 (d := L8) rfl) (andL_ok (i := 8) c.ex rfl)
  lf_InvalidNames := lf_of (d := L9) X G (c.d.fact 28 (f := .glo "InvalidNames") rfl) (file := "/claim/cut.py") rfl (by first | rfl | decide +kernel) (c.lf 9 (d := L9) rfl) (andL_ok (i := 9) c.ex rfl)
  lf_InvalidPath := lf_of (d := L10) X G (c.d.fact 29 (f := .glo "InvalidPath") rfl) (file := "/claim/cut.py") rfl (by first | rfl | decide +kernel) (c.lf 10 (d := L10) rfl) (andL_ok (i := 10) c.ex rfl)
  lf_InvalidRows := lf_of (d := L11) X G (c.d.fact 30 (f := .glo "InvalidRows") rfl) (file := "/claim/cut.py") rfl (by first | rfl | decide +kernel) (c.lf 11 (d := L11) rfl) (andL_ok (i := 11) c.ex rfl)
  lf_InvalidRule := lf_of (d := L12) X G (c.d.fact 31 (f := .glo "InvalidRule") rfl) (file := "/claim/cut.py") rfl (by first | rfl | decide +kernel) (c.lf 12 (d := L12) rfl) (andL_ok (i := 12) c.ex rfl)
  lf_InvalidRules := lf_of (d := L13) X G (c.d.fact 32 (f := .glo "InvalidRules") rfl) (file := "/claim/cut.py") rfl (by first | rfl | decide +kernel) (c.lf 13 (d := L13) rfl) (andL_ok (i := 13) c.ex rfl)
  lf_InvalidScript := lf_of (d := L14) X G (c.d.fact 33 (f := .glo "InvalidScript") rfl) (file := "/claim/cut.py") rfl (by first | rfl | decide +kernel) (c.lf 14 (d := L14) rfl) (andL_ok (i := 14) c.ex rfl)
  lf_InvalidSights := lf_of (d := L15) X G (c.d.fact 34 (f := .glo "InvalidSights") rfl) (file := "/claim/cut.py") rfl (by first | rfl | decide +kernel) (c.lf 15 (d := L15) rfl) (andL_ok (i := 15) c.ex rfl)
  lf_InvalidStair := lf_of (d := L16) X G (c.d.fact 35 (f := .glo "InvalidStair") rfl) (file := "/claim/cut.py") rfl (by first | rfl | decide +kernel) (c.lf 16 (d := L16) rfl) (andL_ok (i := 16) c.ex rfl)
  lf_InvalidTerm := lf_of (d := L17) X G (c.d.fact 36 (f := .glo "InvalidTerm") rfl) (file := "/claim/cut.py") rfl (by first | rfl | decide +kernel) (c.lf 17 (d := L17) rfl) (andL_ok (i := 17) c.ex rfl)
  lf_InvalidText := lf_of (d := L18) X G (c.d.fact 37 (f := .glo "InvalidText") rfl) (file := "/claim/cut.py") rfl (by first | rfl | decide +kernel) (c.lf 18 (d := L18) rfl) (andL_ok (i := 18) c.ex rfl)
  lf_InvalidWhole := lf_of (d := L19) X G (c.d.fact 38 (f := .glo "InvalidWhole") rfl) (file := "/claim/cut.py") rfl (by first | rfl | decide +kernel) (c.lf 19 (d := L19) rfl) (andL_ok (i := 19) c.ex rfl)
  lf_InvalidWindows := lf_of (d := L20) X G (c.d.fact 39 (f := .glo "InvalidWindows") rfl) (file := "/claim/cut.py") rfl (by first | rfl | decide +kernel) (c.lf 20 (d := L20) rfl) (andL_ok (i := 20) c.ex rfl)
  lf_NotFlat := lf_of (d := L21) X G (c.d.fact 40 (f := .glo "NotFlat") rfl) (file := "/claim/cut.py") rfl (by first | rfl | decide +kernel) (c.lf 21 (d := L21) rfl) (andL_ok (i := 21) c.ex rfl)
  lf_StillNeeded := lf_of (d := L22) X G (c.d.fact 41 (f := .glo "StillNeeded") rfl) (file := "/claim/cut.py") rfl (by first | rfl | decide +kernel) (c.lf 22 (d := L22) rfl) (andL_ok (i := 22) c.ex rfl)
  lf_TakenName := lf_of (d := L23) X G (c.d.fact 42 (f := .glo "TakenName") rfl) (file := "/claim/cut.py") rfl (by first | rfl | decide +kernel) (c.lf 23 (d := L23) rfl) (andL_ok (i := 23) c.ex rfl)
  lf_UnknownName := lf_of (d := L24) X G (c.d.fact 43 (f := .glo "UnknownName") rfl) (file := "/claim/cut.py") rfl (by first | rfl | decide +kernel) (c.lf 24 (d := L24) rfl) (andL_ok (i := 24) c.ex rfl)
  lf_Unlike := lf_of (d := L25) X G (c.d.fact 44 (f := .glo "Unlike") rfl) (file := "/claim/cut.py") rfl (by first | rfl | decide +kernel) (c.lf 25 (d := L25) rfl) (andL_ok (i := 25) c.ex rfl)
  n_ValueError := He.free_ok X G (c.d.fact 45 (f := .free "ValueError") rfl)
  n_dict := He.free_ok X G (c.d.fact 46 (f := .free "dict") rfl)
  n_isinstance := He.free_ok X G (c.d.fact 47 (f := .free "isinstance") rfl)
  n_len := He.free_ok X G (c.d.fact 48 (f := .free "len") rfl)
  n_list := He.free_ok X G (c.d.fact 49 (f := .free "list") rfl)
  n_max := He.free_ok X G (c.d.fact 50 (f := .free "max") rfl)
  n_min := He.free_ok X G (c.d.fact 51 (f := .free "min") rfl)
  n_range := He.free_ok X G (c.d.fact 52 (f := .free "range") rfl)
  n_repr := He.free_ok X G (c.d.fact 53 (f := .free "repr") rfl)
  n_sum := He.free_ok X G (c.d.fact 54 (f := .free "sum") rfl)
  n_super := He.free_ok X G (c.d.fact 55 (f := .free "super") rfl)
  xi := xi_of (fun x hx => by
      rcases List.mem_cons.mp hx with rfl | hx
      · exact He.glo_ok X G (c.d.fact 36 (f := .glo "InvalidTerm") rfl)
      rcases List.mem_cons.mp hx with rfl | hx
      · exact He.glo_ok X G (c.d.fact 31 (f := .glo "InvalidRule") rfl)
      rcases List.mem_cons.mp hx with rfl | hx
      · exact He.glo_ok X G (c.d.fact 40 (f := .glo "NotFlat") rfl)
      rcases List.mem_cons.mp hx with rfl | hx
      · exact He.glo_ok X G (c.d.fact 29 (f := .glo "InvalidPath") rfl)
      rcases List.mem_cons.mp hx with rfl | hx
      · exact He.glo_ok X G (c.d.fact 30 (f := .glo "InvalidRows") rfl)
      rcases List.mem_cons.mp hx with rfl | hx
      · exact He.glo_ok X G (c.d.fact 24 (f := .glo "InvalidHours") rfl)
      rcases List.mem_cons.mp hx with rfl | hx
      · exact He.glo_ok X G (c.d.fact 38 (f := .glo "InvalidWhole") rfl)
      rcases List.mem_cons.mp hx with rfl | hx
      · exact He.glo_ok X G (c.d.fact 22 (f := .glo "InvalidCount") rfl)
      rcases List.mem_cons.mp hx with rfl | hx
      · exact He.glo_ok X G (c.d.fact 27 (f := .glo "InvalidName") rfl)
      rcases List.mem_cons.mp hx with rfl | hx
      · exact He.glo_ok X G (c.d.fact 28 (f := .glo "InvalidNames") rfl)
      rcases List.mem_cons.mp hx with rfl | hx
      · exact He.glo_ok X G (c.d.fact 43 (f := .glo "UnknownName") rfl)
      rcases List.mem_cons.mp hx with rfl | hx
      · exact He.glo_ok X G (c.d.fact 42 (f := .glo "TakenName") rfl)
      rcases List.mem_cons.mp hx with rfl | hx
      · exact He.glo_ok X G (c.d.fact 32 (f := .glo "InvalidRules") rfl)
      rcases List.mem_cons.mp hx with rfl | hx
      · exact He.glo_ok X G (c.d.fact 20 (f := .glo "InvalidBook") rfl)
      rcases List.mem_cons.mp hx with rfl | hx
      · exact He.glo_ok X G (c.d.fact 44 (f := .glo "Unlike") rfl)
      rcases List.mem_cons.mp hx with rfl | hx
      · exact He.glo_ok X G (c.d.fact 25 (f := .glo "InvalidLates") rfl)
      rcases List.mem_cons.mp hx with rfl | hx
      · exact He.glo_ok X G (c.d.fact 21 (f := .glo "InvalidCorners") rfl)
      rcases List.mem_cons.mp hx with rfl | hx
      · exact He.glo_ok X G (c.d.fact 35 (f := .glo "InvalidStair") rfl)
      rcases List.mem_cons.mp hx with rfl | hx
      · exact He.glo_ok X G (c.d.fact 39 (f := .glo "InvalidWindows") rfl)
      rcases List.mem_cons.mp hx with rfl | hx
      · exact He.glo_ok X G (c.d.fact 34 (f := .glo "InvalidSights") rfl)
      rcases List.mem_cons.mp hx with rfl | hx
      · exact He.glo_ok X G (c.d.fact 19 (f := .glo "Clash") rfl)
      rcases List.mem_cons.mp hx with rfl | hx
      · exact He.glo_ok X G (c.d.fact 23 (f := .glo "InvalidHall") rfl)
      rcases List.mem_cons.mp hx with rfl | hx
      · exact He.glo_ok X G (c.d.fact 33 (f := .glo "InvalidScript") rfl)
      rcases List.mem_cons.mp hx with rfl | hx
      · exact He.glo_ok X G (c.d.fact 26 (f := .glo "InvalidLog") rfl)
      rcases List.mem_cons.mp hx with rfl | hx
      · exact He.glo_ok X G (c.d.fact 37 (f := .glo "InvalidText") rfl)
      rcases List.mem_cons.mp hx with rfl | hx
      · exact He.glo_ok X G (c.d.fact 41 (f := .glo "StillNeeded") rfl)
      rcases List.mem_cons.mp hx with rfl | hx
      · exact He.glo_ok X G (c.d.fact 17 (f := .glo "NothingToUndo") rfl)
      rcases List.mem_cons.mp hx with rfl | hx
      · exact He.glo_ok X G (c.d.fact 15 (f := .glo "NothingToRedo") rfl)
      rcases List.mem_cons.mp hx with rfl | hx
      · exact He.glo_ok X G (c.d.fact 13 (f := .glo "LeafError") rfl)
      · cases hx) (andL_ok (i := 26) c.ex rfl)
theorem hend {w : World} {K : PySem.W.Frag} {h : Heap} {mg : PySem.Str → Option Value} {fa : Addr} (X : K.In h) (G : h.Ns mainGlobals mg) (hmg : mg "law" = some (.ref fa)) (c : SaysC hfa hfn hln hex K) : ∃ fd : FuncData, (∀ (s : Shared) (u : Value), BindsTo s fd ⟨[u], []⟩ [("_law_script", u)]) ∧ ∀ base : Heap, K.In base → base.Ns mainGlobals mg → FnD HR.prog w K mg base 4 fa fd ["_law_script"] (spM ⟨mg, K⟩ m_law 1) := end_mk (P := HR.prog) (w := w) X G hmg  (htxt X G c)
end K01
section
open PySem PySem.W PyProof.Rows
set_option maxRecDepth 100000 in
set_option maxHeartbeats 0 in
theorem K01.hmain (plain : ∀ ns : List Int, ns.length ≤ 63 → ∃ st1, K01.m_law [.fro (ns.map LW.D.int)] [] = some (.bl true, st1)) : PySem.Challenge.rw_leafwaits_k01_errors_made.Holds := by
  w_on
  o_law
  refine HandSHeadRun.head_any (r := OpenLaw.row PySem.Challenge.rw_leafwaits_k01_errors_made) (q := view (OpenLaw.row PySem.Challenge.rw_leafwaits_k01_errors_made).prog [43]) (H := K01.hk) (ob := K01.hob) (M := 12000) (loose := K01.hnames) (d := HandSHeadRun.topDef (OpenLaw.row PySem.Challenge.rw_leafwaits_k01_errors_made).prog 43) (kwd := []) K01.hob_eq
    (by kernel_rfl) (fun s => by kernel_rfl) K01.hrun (by kernel_rfl) (by kernel_rfl) (by kernel_rfl) (by rfl) (by first | assumption | decide +kernel) (by decide +kernel) ⟨rfl, rfl, rfl, rfl, rfl, by decide +kernel⟩ ?hw ?hc
  case hw => w_witness2
  case hc =>
    refine LW.walk_DE (l := PySem.Challenge.rw_leafwaits_k01_errors_made) (n := 63) (k := 4) (x := "_law_script") (g := K01.m_law) rfl (by decide) (by kernel_rfl) ⟨rfl, by decide, by decide⟩ ?F plain
    intro w mg fa h Y G hmg0
    obtain ⟨K, KX, c⟩ := Y
    have hmg : mg ("law" : PySem.Str) = some (.ref fa) := by
      have e : (HandSHeadRun.topDef (OpenLaw.row PySem.Challenge.rw_leafwaits_k01_errors_made).prog 43).name = ("law" : PySem.Str) := by kernel_rfl
      rw [← e]
      exact hmg0
    exact ⟨K, KX, K01.hend KX G hmg c⟩
end

namespace K01
open PySem L2 LW
local macro_rules | `(tactic| bv_omega) => `(tactic| (repeat (first | with_reducible first | refine z_var (by with_unfolding_all rfl) ?_ | refine z_pk (by with_unfolding_all rfl) ?_ | refine z_pkO (by with_unfolding_all rfl) ?_ | refine z_retO (by with_unfolding_all rfl) ?_ | refine z_dictO (by with_unfolding_all rfl) ?_ | refine z_c ?_ | refine z_op ?_ | refine z_nil ?_ | refine z_cons ?_ | refine z_tup ?_ | refine z_lst ?_ | refine z_L ?_ | refine z_bi ?_ | refine z_call ?_ | refine z_meth ?_ | refine z_prop ?_ | refine z_fld ?_ | refine z_make ?_ | refine z_not ?_ | refine z_neg ?_ | refine z_bits ?_ | refine t_of ?_ | refine t_not ?_ | refine z_slN ?_ | refine z_oN ?_ | refine z_oS ?_ | refine z_snil ?_ | refine z_seq ?_ | refine z_set ?_ | refine z_own ?_ | refine z_ret ?_ | refine z_retC ?_ | refine z_drop ?_ | refine z_frz ?_ | refine z_app ?_ | refine z_appC ?_ | refine z_putC ?_ | refine z_for ?_ | refine z_lc ?_ | refine z_yes ?_ | refine z_kv ?_ | refine z_ko ?_ | refine z_par ?_ | refine z_unp ?_ | refine z_sfld ?_ | refine z_rg1 ?_ | refine z_rg2 ?_ | refine z_rg3 ?_ | refine z_and ?_ | refine z_or ?_ | refine z_eif ?_ | refine t_and ?_ | refine t_or ?_ | refine z_sif ?_ | refine u_add ?_ | refine u_sub ?_ | refine u_lt ?_ | refine u_le ?_ | refine u_gt ?_ | refine u_ge ?_ | refine u_isN ?_ | refine u_notN ?_ | refine z_par3 ?_ | refine z_dcl ?_ | refine z_cel ?_ | refine z_putDC ?_ | refine z_clrC ?_ | refine z_ownD ?_ | refine z_lenSN ?_ | refine z_D ?_ | refine z_dComp ?_ | refine z_lc2 ?_ | refine z_sn ?_ | refine z_makeC ?_ | refine z_methC ?_ | refine z_fldC ?_ | refine z_sfldC ?_ | refine z_xSet ?_ | refine z_methX ?_ | refine z_methCX ?_ | refine z_xIfE ?_ | refine z_xEL ?_ | refine z_xPar2 (by decide) ?_ | refine z_kD2 ?_ | refine z_par2 (by decide) ?_ | refine z_d0 ?_ | refine z_xBare ?_ | refine z_xFrz ?_ | refine z_xFor ?_ | refine z_sortIt ?_ | refine z_lenO ?_ | refine z_xSeq ?_ | refine z_xIf ?_ | refine z_xRaise ?_ | refine z_xL ?_ | refine z_xNil ?_ | refine z_xDrop ?_ | refine z_xRet ?_ | refine z_eCallX ?_ | refine z_sTry ?_ | refine z_DT ?_ | refine z_t0 ?_ | refine z_Td ?_ | refine z_ownT ?_ | refine z_putT ?_ | refine z_frzT ?_ | refine z_par3T ?_ | refine z_toT ?_ | refine z_join ?_ | refine z_sw3 ?_ | refine z_err ?_ | refine z_err0 ?_ | refine z_errB ?_ | (with_reducible refine u_mul ?_ ?_; next => first | exact mulC_r (by decide) (by decide) | exact mulC_l (by decide) (by decide) | exact mulC_r (by omega) (by omega) | exact mulC_l (by omega) (by omega)) | (with_reducible refine u_mod ?_ ?_; next => first | decide | assumption | omega) | (with_reducible refine u_div ?_ ?_; next => first | exact divC_s (by decide) (by decide) | exact divC_s (by omega) (by omega)))))
def mixed (a b c : Int) : Int := ((((a * 69069 + 104729 * b * b + 7919 * c + b) % 2147483647) * ((a * 69069 + 104729 * b * b + 7919 * c + b) % 2147483647) + 40503) % 2147483629) * 48271 % 2147483587
theorem mixed_ok {a b c : Int} {st : Sto} (hb : 0 ≤ b) (hb' : b < 2 ^ 60) : m__law_mixed [.int a, .int b, .int c] st = some (.int (mixed a b c), st) := by
  refine Ok.eq (z_fn rfl ?_)
  unfold b__law_mixed
  bv_omega
  exact ⟨rfl, rfl⟩
theorem mixed_pos (a b c : Int) : 0 ≤ mixed a b c := by unfold mixed; omega
/-- a purse as a cell holds it -/
def Pu (n : Nat) (l : List D) : Prop := ∃ a b c e : Int, l = [.int a, .int b, .int c, .int e] ∧ 0 ≤ a ∧ 0 ≤ c ∧ c ≤ n
theorem Pu.mono {n m : Nat} {l : List D} (h : Pu n l) (hm : n ≤ m) : Pu m l := by
  obtain ⟨a, b, c, e, h1, h2, h3, h4⟩ := h
  exact ⟨a, b, c, e, h1, h2, h3, by omega⟩
theorem bits_le {m : Int} (h0 : 0 < m) (h : m < 2 ^ 100) : Builtin.Int.intBits m ≤ 100 := by
  unfold Builtin.Int.intBits
  have hz : ¬ (m == 0) = true := by simp; omega
  rw [if_neg hz]
  have := (Nat.log2_lt (n := m.natAbs) (k := 100) (by omega)).mpr (by omega)
  omega
theorem set_get {l l' : List D} {st : Sto} {k : Nat} (h : st[k]? = some l) : (st.set k l')[k]? = some l' := by
  rw [List.getElem?_set_self (List.getElem?_eq_some_iff.mp h).1]
theorem set_self {l : List D} {st : Sto} {k : Nat} (h : st[k]? = some l) : st.set k l = st := by
  obtain ⟨h1, rfl⟩ := List.getElem?_eq_some_iff.mp h
  exact List.set_getElem_self h1
theorem draw_ok {n k : Nat} {l : List D} {st : Sto} {m : Int} (hk : st[k]? = some l) (P : Pu n l) (hn : n < 2 ^ 50) (h0 : 0 < m) (hm : m < 2 ^ 100) :
    Ok (m__law_draw [.cell k, .int m] st) fun d s => ∃ r l', d = .int r ∧ s = st.set k l' ∧ Pu (n + 4) l' ∧ 0 ≤ r ∧ r < m := by
  obtain ⟨a, b, c, e, rfl, ha, hc, hcn⟩ := P
  refine z_fn rfl ?_
  unfold b__law_draw
  bv_omega
  refine u_ixC (lcG_of hk rfl) rfl ?_
  bv_omega
  refine b_dec (fun hp => ?_) (fun hp => ?_)
  · bv_omega
    refine u_ixC (lcG_of hk rfl) rfl ?_
    bv_omega
    refine u_ixC (lcG_of hk rfl) rfl ?_
    bv_omega
    refine ⟨_, 0, lcG_of hk rfl, rfl, ?_⟩
    bv_omega
    exact ⟨_, _, rfl, rfl, ⟨a / m, b, c, e, rfl, Int.ediv_nonneg ha (by omega), hc, by omega⟩, Int.emod_nonneg _ (by omega), Int.emod_lt_of_pos _ h0⟩
  · bv_omega
    have hb := bits_le h0 hm
    have hj : (1 + (Builtin.Int.intBits m : Int) / 28).toNat ≤ 4 := by omega
    refine ⟨_, rfl, inR_t (by omega) (by omega), ?_⟩
    refine (loop_inv (fun i env s => ∃ (c' f : Int) (p : Sl), env = [.val (.cell k), .val (.int m), .un, .val (.int f), p] ∧ s = st.set k [.int a, .int b, .int c', .int e] ∧ c' = c + i ∧ 0 ≤ f) _ 0 _ _
      ⟨c, 0, .un, rfl, (set_self hk).symm, by omega, by omega⟩ ?_ (fun _ _ _ => rfl)).mono ?_
    · rintro i x e0 s hx ⟨c', f, p, rfl, rfl, rfl, hf⟩
      refine ⟨rfl, _, rfl, ?_⟩
      have hi : i < 4 := by
        have := (List.getElem?_eq_some_iff.mp hx).1
        rw [rangeD_len] at this
        omega
      have hk' := set_get (l' := [.int a, .int b, .int (c + ((0 + i : Nat) : Int)), .int e]) hk
      bv_omega
      refine u_ixC (lcG_of hk' rfl) rfl ?_
      bv_omega
      refine ⟨_, 2, lcG_of hk' rfl, rfl, ?_⟩
      rw [List.set_set]
      have hk2 : ∀ y, (st.set k ([D.int a, .int b, .int (c + ((0 + i : Nat) : Int)), .int e].set 2 (.int y)))[k]? = some [D.int a, .int b, .int y, .int e] := fun y => set_get hk
      bv_omega
      refine u_ixC (lcG_of (hk2 _) rfl) rfl ?_
      bv_omega
      refine u_ixC (lcG_of (hk2 _) rfl) rfl ?_
      bv_omega
      refine u_ixC (lcG_of (hk2 _) rfl) rfl ?_
      bv_omega
      refine Ok.use (mixed_ok (by omega) (by omega)) ?_
      bv_omega
      refine ⟨_, .inl rfl, _, _, _, rfl, rfl, by omega, ?_⟩
      have := mixed_pos b (c + ((0 + i : Nat) : Int) + 1) e
      omega
    · rintro o s ⟨e', rfl, c', f, p, rfl, rfl, rfl, hf⟩
      bv_omega
      refine ⟨_, _, rfl, rfl, ⟨a, b, _, e, rfl, ha, by omega, ?_⟩, Int.emod_nonneg _ (by omega), Int.emod_lt_of_pos _ h0⟩
      rw [rangeD_len]
      omega
def Pc (k n : Nat) (st : Sto) : Prop := ∃ l, st[k]? = some l ∧ Pu n l
def Keep (k : Nat) (st s : Sto) : Prop := ∀ (j : Nat) (x : List D), j ≠ k → st[j]? = some x → s[j]? = some x
theorem Keep.refl {k : Nat} {st : Sto} : Keep k st st := fun _ _ _ h => h
theorem Keep.trans {k : Nat} {a b c : Sto} (h : Keep k a b) (h' : Keep k b c) : Keep k a c := fun j x n e => h' j x n (h j x n e)
theorem Keep.app {k : Nat} {st : Sto} {ys : Sto} : Keep k st (st ++ ys) := fun j x _ e => by
  rw [List.getElem?_append_left (List.getElem?_eq_some_iff.mp e).1]
  exact e
theorem Pc.mono {k n m : Nat} {st : Sto} (h : Pc k n st) (hm : n ≤ m) : Pc k m st := by
  obtain ⟨l, e, p⟩ := h
  exact ⟨l, e, p.mono hm⟩
theorem Pc.app {k n : Nat} {st : Sto} {ys : Sto} (h : Pc k n st) : Pc k n (st ++ ys) := by
  obtain ⟨l, e, p⟩ := h
  exact ⟨l, by rw [List.getElem?_append_left (List.getElem?_eq_some_iff.mp e).1]; exact e, p⟩
theorem Pc.lt {k n : Nat} {st : Sto} (h : Pc k n st) : k < st.length := by
  obtain ⟨l, e, p⟩ := h
  exact (List.getElem?_eq_some_iff.mp e).1
theorem Keep.len {k n : Nat} {st s : Sto} (h : Keep k st s) (P : Pc k n s) : st.length ≤ s.length := by
  by_cases hl : st.length ≤ s.length
  · exact hl
  · have hk := P.lt
    have e := h (st.length - 1) st[st.length - 1] (by omega) (List.getElem?_eq_getElem _)
    have := (List.getElem?_eq_some_iff.mp e).1
    omega
theorem drawK {n k : Nat} {st : Sto} {m : Int} (P : Pc k n st) (hn : n < 2 ^ 50) (h0 : 0 < m) (hm : m < 2 ^ 100) {Q : D → Sto → Prop} (h : ∀ r s, Pc k (n + 4) s → Keep k st s → 0 ≤ r → r < m → Q (.int r) s) : Ok (m__law_draw [.cell k, .int m] st) Q := by
  obtain ⟨l, e, p⟩ := P
  refine (draw_ok e p hn h0 hm).mono ?_
  rintro d s ⟨r, l', rfl, rfl, p', h1, h2⟩
  refine h r _ ⟨l', set_get e, p'⟩ (fun j x nj ej => ?_) h1 h2
  rw [List.getElem?_set_ne (fun z => nj z.symm)]
  exact ej
theorem atI_in {xs : List D} {r : Int} (h0 : 0 ≤ r) (h1 : r < xs.length) : ∃ d, atI xs r = some d ∧ xs[r.toNat]? = some d := by
  refine ⟨xs[r.toNat]'(by omega), ?_, List.getElem?_eq_getElem _⟩
  unfold atI ixN
  rw [if_pos h0, if_pos h1]
  exact List.getElem?_eq_getElem (by omega)
theorem oneK {n k : Nat} {st : Sto} {xs : List D} (P : Pc k n st) (hn : n < 2 ^ 50) (h0 : 0 < xs.length) (hm : xs.length < 1000) {Q : D → Sto → Prop} (h : ∀ d s, Pc k (n + 4) s → Keep k st s → d ∈ xs → Q d s) : Ok (m__law_one_of [.cell k, .lst xs] st) Q := by
  refine z_fn rfl ?_
  unfold b__law_one_of
  bv_omega
  refine u_now rfl ?_
  bv_omega
  refine drawK P hn (m := (xs.length : Int)) (by omega) (by omega) fun r s P' K' h1 h2 => ?_
  obtain ⟨d, e, e'⟩ := atI_in h1 h2
  refine u_ixL e ?_
  exact h d s P' K' (List.mem_of_getElem? e')
theorem cutD_map {ns : List Int} {lo hi : Option Int} : cutD (ns.map D.int) lo hi = (cutD ns lo hi).map D.int := by
  unfold cutD
  rw [List.length_map, List.map_take, List.map_drop]
theorem gSum_cut {ns : List Int} {lo hi : Option Int} {st : Sto} : gSum [.lst (cutD (ns.map D.int) lo hi)] st = some (.int (cutD ns lo hi).sum) := by
  have e : lstI st (.lst (cutD (ns.map D.int) lo hi)) = some (cutD ns lo hi) := by
    rw [cutD_map]
    exact intsOf_map _
  unfold gSum
  dsimp only
  rw [e]
theorem purseK {st : Sto} {ns : List Int} {i : Int} {Q : D → Sto → Prop} (h : ∀ l, Pu 0 l → Q (.cell st.length) (st ++ [l])) : Ok (m__law_purse [.fro (ns.map D.int), .int i] st) Q := by
  refine z_fn rfl ?_
  unfold b__law_purse
  bv_omega
  refine u_now rfl ?_
  bv_omega
  refine u_now gSum_cut ?_
  bv_omega
  refine u_pow (by decide +kernel) ?_
  bv_omega
  refine u_now rfl ?_
  bv_omega
  refine u_pow (by decide +kernel) ?_
  bv_omega
  refine u_pow (by decide +kernel) ?_
  refine u_mod (by decide +kernel) ?_
  bv_omega
  refine ⟨by simp, ?_⟩
  refine h _ ⟨_, _, _, _, rfl, Int.emod_nonneg _ (by decide +kernel), by decide, by decide⟩
theorem pursesK {st : Sto} {ns : List Int} {Q : D → Sto → Prop} (h : ∀ (ks : List Nat) s, (∀ k ∈ ks, Pc k 0 s) → ks.Pairwise (· ≠ ·) → Q (.lst (ks.map D.cell)) s) : Ok (m__law_purses [.fro (ns.map D.int), .int 3] st) Q := by
  refine z_fn rfl ?_
  unfold b__law_purses
  bv_omega
  refine u_now rfl ?_
  bv_omega
  refine u_now rfl ?_
  bv_omega
  refine u_now rfl ?_
  bv_omega
  refine ⟨_, rfl, inR_t ?_ ?_, ?_, ?_⟩
  · split <;> split <;> omega
  · split <;> split <;> omega
  · rw [rangeD_len]
    split <;> split <;> omega
  · refine (comp_inv (fun acc s => ∃ ks : List Nat, acc = ks.map D.cell ∧ (∀ k ∈ ks, Pc k 0 s) ∧ ks.Pairwise (· ≠ ·)) _ [] _ ⟨[], rfl, (fun k hk => by cases hk), List.Pairwise.nil⟩ ?_ fun _ _ _ => rfl).mono ?_
    · rintro x hx acc s ⟨ks, rfl, hP, hw⟩
      obtain ⟨i, _, rfl⟩ := List.mem_map.mp hx
      refine ⟨_, rfl, ?_⟩
      bv_omega
      refine b_t rfl ?_
      bv_omega
      refine purseK fun l hl => ?_
      refine ⟨ks ++ [s.length], by rw [List.map_append]; rfl, fun k hk => ?_, List.pairwise_append.mpr ⟨hw, List.pairwise_singleton _ _, fun a ha b hb => ?_⟩⟩
      · rcases List.mem_append.mp hk with hk | hk
        · exact (hP k hk).app
        · cases List.mem_singleton.mp hk
          exact ⟨l, by rw [List.getElem?_append_right (Nat.le_refl _), Nat.sub_self]; rfl, hl⟩
      · cases List.mem_singleton.mp hb
        have := (hP a ha).lt
        omega
    · rintro ys s ⟨ks, e, hP, hw⟩
      cases e
      exact h ks s hP hw
end K01

namespace LW
open PySem L2
theorem u_addS {s : Sto} {a b : Str} {Q : D → Prop} (hl : a.length + b.length ≤ 1000000) (q : Q (.str (a ++ b))) : Od (oAdd (.str a) (.str b) s) Q := by
  refine u_now ?_ q
  have e : oCatS (.str a) (.str b) s = some (.str (a ++ b)) := by unfold oCatS; exact if_pos hl
  show orO oCatS _ _ _ _ = _
  unfold orO
  rw [e]
end LW
namespace K01
open PySem L2 LW
local macro_rules | `(tactic| bv_omega) => `(tactic| (repeat (first | with_reducible first | refine z_var (by with_unfolding_all rfl) ?_ | refine z_pk (by with_unfolding_all rfl) ?_ | refine z_pkO (by with_unfolding_all rfl) ?_ | refine z_retO (by with_unfolding_all rfl) ?_ | refine z_dictO (by with_unfolding_all rfl) ?_ | refine z_c ?_ | refine z_op ?_ | refine z_nil ?_ | refine z_cons ?_ | refine z_tup ?_ | refine z_lst ?_ | refine z_L ?_ | refine z_bi ?_ | refine z_call ?_ | refine z_meth ?_ | refine z_prop ?_ | refine z_fld ?_ | refine z_make ?_ | refine z_not ?_ | refine z_neg ?_ | refine z_bits ?_ | refine t_of ?_ | refine t_not ?_ | refine z_slN ?_ | refine z_oN ?_ | refine z_oS ?_ | refine z_snil ?_ | refine z_seq ?_ | refine z_set ?_ | refine z_own ?_ | refine z_ret ?_ | refine z_retC ?_ | refine z_drop ?_ | refine z_frz ?_ | refine z_app ?_ | refine z_appC ?_ | refine z_putC ?_ | refine z_for ?_ | refine z_lc ?_ | refine z_yes ?_ | refine z_kv ?_ | refine z_ko ?_ | refine z_par ?_ | refine z_unp ?_ | refine z_sfld ?_ | refine z_rg1 ?_ | refine z_rg2 ?_ | refine z_rg3 ?_ | refine z_and ?_ | refine z_or ?_ | refine z_eif ?_ | refine t_and ?_ | refine t_or ?_ | refine z_sif ?_ | refine u_add ?_ | refine u_sub ?_ | refine u_lt ?_ | refine u_le ?_ | refine u_gt ?_ | refine u_ge ?_ | refine u_isN ?_ | refine u_notN ?_ | refine z_par3 ?_ | refine z_dcl ?_ | refine z_cel ?_ | refine z_putDC ?_ | refine z_clrC ?_ | refine z_ownD ?_ | refine z_lenSN ?_ | refine z_D ?_ | refine z_dComp ?_ | refine z_lc2 ?_ | refine z_sn ?_ | refine z_makeC ?_ | refine z_methC ?_ | refine z_fldC ?_ | refine z_sfldC ?_ | refine z_xSet ?_ | refine z_methX ?_ | refine z_methCX ?_ | refine z_xIfE ?_ | refine z_xEL ?_ | refine z_xPar2 (by decide) ?_ | refine z_kD2 ?_ | refine z_par2 (by decide) ?_ | refine z_d0 ?_ | refine z_xBare ?_ | refine z_xFrz ?_ | refine z_xFor ?_ | refine z_sortIt ?_ | refine z_lenO ?_ | refine z_xSeq ?_ | refine z_xIf ?_ | refine z_xRaise ?_ | refine z_xL ?_ | refine z_xNil ?_ | refine z_xDrop ?_ | refine z_xRet ?_ | refine z_eCallX ?_ | refine z_sTry ?_ | refine z_DT ?_ | refine z_t0 ?_ | refine z_Td ?_ | refine z_ownT ?_ | refine z_putT ?_ | refine z_frzT ?_ | refine z_par3T ?_ | refine z_toT ?_ | refine z_join ?_ | refine z_sw3 ?_ | refine z_err ?_ | refine z_err0 ?_ | refine z_errB ?_ | (with_reducible refine u_mul ?_ ?_; next => first | exact mulC_r (by decide) (by decide) | exact mulC_l (by decide) (by decide) | exact mulC_r (by omega) (by omega) | exact mulC_l (by omega) (by omega)) | (with_reducible refine u_mod ?_ ?_; next => first | decide | assumption | omega) | (with_reducible refine u_div ?_ ?_; next => first | exact divC_s (by decide) (by decide) | exact divC_s (by omega) (by omega)))))
abbrev letters : Str := "abcdefghijklmnopqrstuvwxyz"
/-- a name: one to eight letters -/
structure Nm (z : Str) : Prop where
  lo : 1 ≤ z.length
  hi : z.length ≤ 8
  abc : ∀ c ∈ z.cps.toList, c ∈ letters.cps.toList
theorem letter_lt : ∀ c ∈ letters.cps.toList, c < 0x110000 := by decide +kernel
theorem Nm.ok {z : Str} (h : Nm z) : PyData.strOk z = true := by
  unfold PyData.strOk
  rw [← Array.all_toList, List.all_eq_true]
  intro c hc
  exact decide_eq_true (letter_lt c (h.abc c hc))
theorem ix_nat {n i : Nat} {j : Int} (e : j = i) (h : i < n) : ixN n j = some i := by
  subst e
  unfold ixN
  rw [if_pos (by omega), if_pos (by omega), Int.toNat_natCast]
/-! ### words -/
theorem letters_len : letters.cps.toList.length = 26 := by decide +kernel
theorem ix_letter {r : Int} {s : Sto} (h0 : 0 ≤ r) (h1 : r < 26) : ∃ ch, ch ∈ letters.cps.toList ∧ oIx (.str letters) (.int r) s = some (.str ⟨#[ch]⟩) := by
  have hl : r.toNat < letters.cps.toList.length := by rw [letters_len]; omega
  refine ⟨letters.cps.toList[r.toNat], List.getElem_mem hl, ?_⟩
  have e : atI letters.cps.toList r = some letters.cps.toList[r.toNat] := by
    unfold atI
    rw [ix_nat (i := r.toNat) (by omega) hl]
    exact List.getElem?_eq_getElem hl
  show (if letters.length ≤ 1000000 then (match atI letters.cps.toList r with | some ch => some (D.str ⟨#[ch]⟩) | none => none) else none) = _
  rw [if_pos (by decide +kernel), e]
structure Wo (i : Nat) (z : Str) : Prop where
  len : z.length = i
  abc : ∀ c ∈ z.cps.toList, c ∈ letters.cps.toList
theorem Wo.snoc {i : Nat} {z : Str} {ch : Nat} (h : Wo i z) (hc : ch ∈ letters.cps.toList) : Wo (i + 1) (z ++ ⟨#[ch]⟩) where
  len := by
    have := h.len
    show (z.cps ++ #[ch]).size = _
    rw [Array.size_append]
    show z.cps.size + 1 = _
    have : z.cps.size = i := this
    omega
  abc := fun c hm => by
    have : c ∈ (z.cps ++ #[ch]).toList := hm
    rw [Array.toList_append] at this
    rcases List.mem_append.mp this with q | q
    · exact h.abc c q
    · rw [List.mem_singleton.mp q]; exact hc
theorem wordK {n k : Nat} {st : Sto} (P : Pc k n st) (hn : n < 2 ^ 45) {Q : D → Sto → Prop} (h : ∀ z s, Pc k (n + 40) s → Keep k st s → Nm z → Q (.str z) s) : Ok (m__law_word [.cell k] st) Q := by
  refine z_fn rfl ?_
  unfold b__law_word
  bv_omega
  refine drawK P (by omega) (m := 8) (by decide) (by decide) fun r s1 P1 K1 r0 r1 => ?_
  bv_omega
  refine ⟨_, rfl, inR_t (by omega) (by omega), ?_⟩
  refine (loop_inv (fun i env s => ∃ z p2, env = [.val (.cell k), .val (.str z), p2] ∧ Wo i z ∧ Pc k (n + 4 + 4 * i) s ∧ Keep k st s) _ 0 _ _ ⟨"", _, rfl, ⟨rfl, fun c hc => by cases hc⟩, P1, K1⟩ ?_ (fun _ _ _ => rfl)).mono ?_
  · rintro i x e s hx ⟨z, p2, rfl, W, P2, K2⟩
    have hi : i < 8 := by
      have := (List.getElem?_eq_some_iff.mp hx).1
      rw [rangeD_len] at this
      omega
    have wl := W.len
    rw [Nat.zero_add] at P2 wl W
    refine ⟨rfl, _, rfl, ?_⟩
    bv_omega
    refine drawK P2 (by omega) (m := 26) (by decide) (by decide) fun r2 s2 P3 K3 q0 q1 => ?_
    obtain ⟨ch, hc, ec⟩ := ix_letter (s := s2) q0 q1
    refine u_now ec ?_
    refine u_addS (by show z.length + 1 ≤ _; omega) ?_
    refine ⟨_, .inl rfl, _, _, rfl, ?_, ?_, K2.trans K3⟩
    · rw [Nat.zero_add]; exact W.snoc hc
    · rw [Nat.zero_add]; exact P3.mono (by omega)
  · rintro o s ⟨e, rfl, z, p2, rfl, W, P2, K2⟩
    rw [rangeD_len, Nat.zero_add] at P2 W
    have wl := W.len
    bv_omega
    exact h z s (P2.mono (by omega)) K2 ⟨by omega, by omega, W.abc⟩
end K01

/-! G01: the errors made, and what isinstance tells of them. -/
namespace K01
open PySem L2 LW
abbrev errs (d : D) : List D := EVS.map fun n => .err n [d]
theorem first_ok (d : D) (s : Sto) : m__law_first [d] s = some (.lst (errs d), s) := by kernel_rfl
theorem named_ok (d : D) (s : Sto) : m__law_named [d] s = some (.lst (errs d), s) := by kernel_rfl
def idx (n : Str) : List D := (ES.take 28).zipIdx.filterMap fun q => if q.1 = n then some (.int q.2) else none
theorem code_at (vs : List D) (s : Sto) : ∀ n ∈ ES, m__law_code [.err n vs] s = some (.lst (idx n), s) := by
  intro n hn
  repeat (rcases List.mem_cons.mp hn with rfl | hn; kernel_rfl)
  cases hn
theorem is_at (vs : List D) (s : Sto) : ∀ n ∈ ES, m__law_is_error [.err n vs] s = some (.bl true, s) := by
  intro n hn
  repeat (rcases List.mem_cons.mp hn with rfl | hn; kernel_rfl)
  cases hn
end K01

/-! I01: the errors are right. -/
namespace K01
open PySem L2 LW
local macro_rules | `(tactic| bv_omega) => `(tactic| (repeat (first | with_reducible first | refine z_var (by with_unfolding_all rfl) ?_ | refine z_pk (by with_unfolding_all rfl) ?_ | refine z_pkO (by with_unfolding_all rfl) ?_ | refine z_retO (by with_unfolding_all rfl) ?_ | refine z_dictO (by with_unfolding_all rfl) ?_ | refine z_c ?_ | refine z_op ?_ | refine z_nil ?_ | refine z_cons ?_ | refine z_tup ?_ | refine z_lst ?_ | refine z_L ?_ | refine z_bi ?_ | refine z_call ?_ | refine z_meth ?_ | refine z_prop ?_ | refine z_fld ?_ | refine z_make ?_ | refine z_not ?_ | refine z_neg ?_ | refine z_bits ?_ | refine t_of ?_ | refine t_not ?_ | refine z_slN ?_ | refine z_oN ?_ | refine z_oS ?_ | refine z_snil ?_ | refine z_seq ?_ | refine z_set ?_ | refine z_own ?_ | refine z_ret ?_ | refine z_retC ?_ | refine z_drop ?_ | refine z_frz ?_ | refine z_app ?_ | refine z_appC ?_ | refine z_putC ?_ | refine z_for ?_ | refine z_lc ?_ | refine z_yes ?_ | refine z_kv ?_ | refine z_ko ?_ | refine z_par ?_ | refine z_unp ?_ | refine z_sfld ?_ | refine z_rg1 ?_ | refine z_rg2 ?_ | refine z_rg3 ?_ | refine z_and ?_ | refine z_or ?_ | refine z_eif ?_ | refine t_and ?_ | refine t_or ?_ | refine z_sif ?_ | refine u_add ?_ | refine u_sub ?_ | refine u_lt ?_ | refine u_le ?_ | refine u_gt ?_ | refine u_ge ?_ | refine u_isN ?_ | refine u_notN ?_ | refine z_par3 ?_ | refine z_dcl ?_ | refine z_cel ?_ | refine z_putDC ?_ | refine z_clrC ?_ | refine z_ownD ?_ | refine z_lenSN ?_ | refine z_D ?_ | refine z_dComp ?_ | refine z_lc2 ?_ | refine z_sn ?_ | refine z_makeC ?_ | refine z_methC ?_ | refine z_fldC ?_ | refine z_sfldC ?_ | refine z_xSet ?_ | refine z_methX ?_ | refine z_methCX ?_ | refine z_xIfE ?_ | refine z_xEL ?_ | refine z_xPar2 (by decide) ?_ | refine z_kD2 ?_ | refine z_par2 (by decide) ?_ | refine z_d0 ?_ | refine z_xBare ?_ | refine z_xFrz ?_ | refine z_xFor ?_ | refine z_sortIt ?_ | refine z_lenO ?_ | refine z_xSeq ?_ | refine z_xIf ?_ | refine z_xRaise ?_ | refine z_xL ?_ | refine z_xNil ?_ | refine z_xDrop ?_ | refine z_xRet ?_ | refine z_eCallX ?_ | refine z_sTry ?_ | refine z_DT ?_ | refine z_t0 ?_ | refine z_Td ?_ | refine z_ownT ?_ | refine z_putT ?_ | refine z_frzT ?_ | refine z_par3T ?_ | refine z_toT ?_ | refine z_join ?_ | refine z_sw3 ?_ | refine z_err ?_ | refine z_err0 ?_ | refine z_errB ?_ | (with_reducible refine u_mul ?_ ?_; next => first | exact mulC_r (by decide) (by decide) | exact mulC_l (by decide) (by decide) | exact mulC_r (by omega) (by omega) | exact mulC_l (by omega) (by omega)) | (with_reducible refine u_mod ?_ ?_; next => first | decide | assumption | omega) | (with_reducible refine u_div ?_ ?_; next => first | exact divC_s (by decide) (by decide) | exact divC_s (by omega) (by omega)))))
theorem flt_no : ∀ l : List D, List.map id (List.filter (fun _ => false) l) = [] := fun l => by simp
theorem flt_all (g : D → D) : ∀ l : List D, List.map g (List.filter (fun _ => true) l) = List.map g l := fun l => by rw [List.filter_eq_self.mpr (fun _ _ => rfl)]
def codeD : D → D
  | .err n _ => .lst (idx n)
  | _ => .non
abbrev idxs : List D := (List.range 26).map fun (i : Nat) => .lst [.int (i : Int)]
theorem codes_all (d : D) : (errs d).map codeD = idxs := by kernel_rfl
theorem evs_es : ∀ n ∈ EVS, n ∈ ES := by decide +kernel
theorem rg_all : (rangeD 0 1 26).map (fun x => D.lst [x]) = idxs := by kernel_rfl
abbrev pyI : PyData := .list ((List.range 26).map fun (i : Nat) => .list [.int (i : Int)])
theorem py_idxs (s : Sto) : toPy 60 s (.lst idxs) = some pyI := by kernel_rfl
theorem eqv_idxs : PyData.eqv pyI pyI = true := by kernel_rfl
theorem right_ok {d : D} {s : Sto} {z : Str} (hz : gReprZ [d] s = some (.str z)) (ok : PyData.strOk z = true) : m__law_right [.lst (errs d), .str z] s = some (.bl true, s) := by
  refine Ok.eq (z_fn rfl ?_)
  unfold b__law_right
  bv_omega
  refine z_seqI ?_
  bv_omega
  refine ⟨_, .inl rfl, ?_⟩
  refine ⟨by show (errs d).length ≤ _; rw [List.length_map]; decide, ?_⟩
  refine comp_all (fun _ => true) codeD rfl _ (fun x hx => ?_) ?_
  · obtain ⟨n, hn, rfl⟩ := List.mem_map.mp hx
    refine ⟨_, rfl, ⟨_, _, rfl, rfl, rfl⟩, fun _ => ?_⟩
    bv_omega
    refine Ok.use (code_at _ _ n (evs_es n hn)) ?_
    exact ⟨rfl, rfl⟩
  · bv_omega
    refine ⟨_, rfl, inR_t (by decide) (by decide), ?_⟩
    refine ⟨by rw [rangeD_len]; decide, ?_⟩
    refine comp_all (fun _ => true) (fun x => .lst [x]) rfl _ (fun x hx => ?_) ?_
    · refine ⟨_, rfl, ⟨_, _, rfl, rfl, rfl⟩, fun _ => ?_⟩
      bv_omega
      refine ⟨by simp, ?_⟩
      exact ⟨rfl, rfl⟩
    · rw [flt_all, flt_all]
      rw [show List.map codeD (errs d, noChk).fst = idxs from codes_all d, show List.map (fun x => D.lst [x]) (rangeD 0 1 (Int.toNat 26), noChk).fst = idxs from rg_all]
      refine u_ne (py_idxs s) (py_idxs s) ?_
      rw [eqv_idxs]
      refine b_f rfl ?_
      bv_omega
      refine z_seqI ?_
      bv_omega
      refine ⟨_, .inl rfl, ?_⟩
      refine ⟨by show (errs d).length ≤ _; rw [List.length_map]; decide, ?_⟩
      refine comp_all (fun _ => false) id rfl _ (fun x hx => ?_) ?_
      · obtain ⟨n, hn, rfl⟩ := List.mem_map.mp hx
        refine ⟨_, rfl, ?_, fun h => by cases h⟩
        bv_omega
        refine Ok.use (is_at _ _ n (evs_es n hn)) ?_
        refine b_f rfl ?_
        bv_omega
        refine z_errV ?_
        bv_omega
        refine ⟨_, _, rfl, hn, ?_⟩
        bv_omega
        refine u_now hz ?_
        bv_omega
        refine u_neS ok ?_
        exact ⟨rfl, rfl⟩
      · bv_omega
        refine ⟨by simp, ?_⟩
        rw [flt_no]
        refine u_eq (p := .list []) (q := .list []) rfl rfl ?_
        exact ⟨rfl, rfl⟩
end K01

/-! J01: the drawn things; one turn of the inner loop. -/
namespace K01
open PySem L2 LW
local macro_rules | `(tactic| bv_omega) => `(tactic| (repeat (first | with_reducible first | refine z_var (by with_unfolding_all rfl) ?_ | refine z_pk (by with_unfolding_all rfl) ?_ | refine z_pkO (by with_unfolding_all rfl) ?_ | refine z_retO (by with_unfolding_all rfl) ?_ | refine z_dictO (by with_unfolding_all rfl) ?_ | refine z_c ?_ | refine z_op ?_ | refine z_nil ?_ | refine z_cons ?_ | refine z_tup ?_ | refine z_lst ?_ | refine z_L ?_ | refine z_bi ?_ | refine z_call ?_ | refine z_meth ?_ | refine z_prop ?_ | refine z_fld ?_ | refine z_make ?_ | refine z_not ?_ | refine z_neg ?_ | refine z_bits ?_ | refine t_of ?_ | refine t_not ?_ | refine z_slN ?_ | refine z_oN ?_ | refine z_oS ?_ | refine z_snil ?_ | refine z_seq ?_ | refine z_set ?_ | refine z_own ?_ | refine z_ret ?_ | refine z_retC ?_ | refine z_drop ?_ | refine z_frz ?_ | refine z_app ?_ | refine z_appC ?_ | refine z_putC ?_ | refine z_for ?_ | refine z_lc ?_ | refine z_yes ?_ | refine z_kv ?_ | refine z_ko ?_ | refine z_par ?_ | refine z_unp ?_ | refine z_sfld ?_ | refine z_rg1 ?_ | refine z_rg2 ?_ | refine z_rg3 ?_ | refine z_and ?_ | refine z_or ?_ | refine z_eif ?_ | refine t_and ?_ | refine t_or ?_ | refine z_sif ?_ | refine u_add ?_ | refine u_sub ?_ | refine u_lt ?_ | refine u_le ?_ | refine u_gt ?_ | refine u_ge ?_ | refine u_isN ?_ | refine u_notN ?_ | refine z_par3 ?_ | refine z_dcl ?_ | refine z_cel ?_ | refine z_putDC ?_ | refine z_clrC ?_ | refine z_ownD ?_ | refine z_lenSN ?_ | refine z_D ?_ | refine z_dComp ?_ | refine z_lc2 ?_ | refine z_sn ?_ | refine z_makeC ?_ | refine z_methC ?_ | refine z_fldC ?_ | refine z_sfldC ?_ | refine z_xSet ?_ | refine z_methX ?_ | refine z_methCX ?_ | refine z_xIfE ?_ | refine z_xEL ?_ | refine z_xPar2 (by decide) ?_ | refine z_kD2 ?_ | refine z_par2 (by decide) ?_ | refine z_d0 ?_ | refine z_xBare ?_ | refine z_xFrz ?_ | refine z_xFor ?_ | refine z_sortIt ?_ | refine z_lenO ?_ | refine z_xSeq ?_ | refine z_xIf ?_ | refine z_xRaise ?_ | refine z_xL ?_ | refine z_xNil ?_ | refine z_xDrop ?_ | refine z_xRet ?_ | refine z_eCallX ?_ | refine z_sTry ?_ | refine z_DT ?_ | refine z_t0 ?_ | refine z_Td ?_ | refine z_ownT ?_ | refine z_putT ?_ | refine z_frzT ?_ | refine z_par3T ?_ | refine z_toT ?_ | refine z_join ?_ | refine z_sw3 ?_ | refine z_err ?_ | refine z_err0 ?_ | refine z_errB ?_ | (with_reducible refine u_mul ?_ ?_; next => first | exact mulC_r (by decide) (by decide) | exact mulC_l (by decide) (by decide) | exact mulC_r (by omega) (by omega) | exact mulC_l (by omega) (by omega)) | (with_reducible refine u_mod ?_ ?_; next => first | decide | assumption | omega) | (with_reducible refine u_div ?_ ?_; next => first | exact divC_s (by decide) (by decide) | exact divC_s (by omega) (by omega)))))
abbrev inB : SS := (sSeq (sIf (bNot (bOf (eCall m__law_right [] (aCons (eVar 5) (aCons (eBi gReprZ (aCons (ePeek 4) (aNil))) (aNil))))))
  (sRet (eC (.bl false)))
  (sNil))
  (sIf (bOf (eBi (gIsi []) (aCons (ePeek 4) (aCons (eC (.ty "list")) (aNil)))))
  (sSeq (sAppC (eVar 4) (eC (.str "later")))
  (sSeq (sIf (bOf (eOp oNe (eL (lComp (iSeq (eVar 5)) (asgN 6) (bOf (eOp oNe (eBi gReprZ (aCons (eErrV EVS (eVar 6)) (aNil))) (eBi gReprZ (aCons (ePeek 4) (aNil))))) (eVar 6) [6])) (eL (lDisp (aNil)))))
  (sRet (eC (.bl false)))
  (sNil))
  (sPopC (eVar 4))))
  (sNil)))

/-- closed data -/
def Cl (x : D) (p : PyData) : Prop := (∀ (s : Sto) (n : Nat), toPy (n + 10) s x = some p) ∧ Sh p 1000
theorem mapO_cl : ∀ (xs : List D), (∀ x ∈ xs, ∃ p, Cl x p) → ∃ ps : List PyData, ps.length = xs.length ∧ (∀ (s : Sto) (n : Nat), mapO (toPy (n + 10) s) xs = some ps) ∧ ∀ p ∈ ps, Sh p 1000
  | [], _ => ⟨[], rfl, fun _ _ => rfl, fun _ h => by cases h⟩
  | x :: xs, h => by
    obtain ⟨p, h1, h2⟩ := h x List.mem_cons_self
    obtain ⟨ps, l, h3, h4⟩ := mapO_cl xs fun y hy => h y (List.mem_cons_of_mem _ hy)
    refine ⟨p :: ps, by rw [List.length_cons, List.length_cons, l], fun s n => ?_, fun q hq => ?_⟩
    · unfold mapO
      rw [h1 s n]
      dsimp only
      rw [h3 s n]
    · rcases List.mem_cons.mp hq with rfl | hq
      · exact h2
      · exact h4 q hq
theorem cl_tag {xs : List D} (h : ∀ x ∈ xs, ∃ p, Cl x p) : isTag xs = false := by
  cases xs with
  | nil => rfl
  | cons x r =>
    obtain ⟨p, h1, _⟩ := h x List.mem_cons_self
    cases x <;> first | rfl | (have := h1 [] 0; cases this)
def Rz (s : Sto) (d : D) : Prop := ∃ z, gReprZ [d] s = some (.str z) ∧ PyData.strOk z = true
theorem rz_py {s : Sto} {d : D} {p : PyData} {n : Nat} (h : toPy 60 s d = some p) (hs : Sh p n) (hn : n ≤ 1000000) : Rz s d := by
  refine ⟨p.shown, ?_, hs.ok⟩
  have e : gReprZ [d] s = gRepr [d] s := by
    unfold gReprZ
    split
    · rename_i e
      cases e
      cases h
    · rfl
  rw [e]
  unfold gRepr
  dsimp only
  rw [h]
  dsimp only
  rw [if_pos ⟨hs.sh, Nat.le_trans hs.ln hn⟩]
theorem rz_cell {s : Sto} {k : Nat} {xs : List D} (e : s[k]? = some xs) (h : ∀ x ∈ xs, ∃ p, Cl x p) (l : xs.length ≤ 20) : Rz s (.cell k) := by
  obtain ⟨ps, lp, h3, h4⟩ := mapO_cl xs h
  have e1 : toPy 60 s (.cell k) = some (.list ps) := by
    unfold toPy
    dsimp only
    rw [lcG_of e (cl_tag h)]
    dsimp only
    rw [h3 s 49]
  exact rz_py e1 (sh_list h4) (by rw [lp]; omega)
/-- a thing that is no list -/
def Pl (d : D) : Prop := ∀ s, Rz s d ∧ gIsi [] [d, .ty "list"] s = some (.bl false)
/-- a list of closed data in a cell -/
def Ce (k0 : Nat) (s : Sto) (d : D) : Prop := ∃ k xs, d = .cell k ∧ k ≠ k0 ∧ s[k]? = some xs ∧ xs.length ≤ 10 ∧ ∀ x ∈ xs, ∃ p, Cl x p
def Th (k0 : Nat) (s : Sto) (d : D) : Prop := Pl d ∨ Ce k0 s d
theorem Th.rz {k0 : Nat} {s : Sto} {d : D} (h : Th k0 s d) : Rz s d := by
  rcases h with h | ⟨k, xs, rfl, _, e, l, h⟩
  · exact (h s).1
  · exact rz_cell e h (by omega)
theorem Th.keep {k0 : Nat} {st s : Sto} {d : D} (h : Th k0 st d) (K : Keep k0 st s) : Th k0 s d := by
  rcases h with h | ⟨k, xs, rfl, n, e, l, h⟩
  · exact .inl h
  · exact .inr ⟨k, xs, rfl, n, K k xs n e, l, h⟩
theorem cl_str {z : Str} (h : PyData.strOk z = true) (l : z.length ≤ 20) : Cl (.str z) (.str z) := by
  refine ⟨fun s n => ?_, sh_mono (sh_str h) (by omega)⟩
  exact py_str h
theorem pl_py {d : D} {p : PyData} (h : Cl d p) (hl : ∀ s, gIsi [] [d, .ty "list"] s = some (.bl false)) : Pl d := fun s => ⟨rz_py (h.1 s 50) h.2 (by decide), hl s⟩
theorem sh_bl {b : Bool} : Sh (.bool b) 13 where
  sh := by unfold PyData.showable; rfl
  ln := by cases b <;> (unfold PyData.shown; decide)
  ok := by
    unfold PyData.shown
    cases b <;> exact strOk_of _
theorem cl_non : Cl .non .none := ⟨fun _ _ => rfl, sh_mono sh_non (by decide)⟩
theorem cl_bl {b : Bool} : Cl (.bl b) (.bool b) := ⟨fun _ _ => rfl, sh_mono sh_bl (by decide)⟩
theorem cl_int {i : Int} (h : i.natAbs < 10 ^ 12) : Cl (.int i) (.int i) := ⟨fun _ _ => rfl, sh_mono (sh_int h) (by decide)⟩
theorem cl_tup0 : Cl (.tup []) (.tuple []) := ⟨fun _ _ => rfl, sh_mono (sh_tup (n := 0) fun _ h => by cases h) (by decide)⟩
theorem later_ok : PyData.strOk ("later" : Str) = true := strOk_of _
theorem inner {k0 : Nat} {s : Sto} {d : D} {q0 q1 q2 q3 q6 q7 : Sl} (T : Th k0 s d) :
    Ok (inB [q0, q1, q2, q3, .val d, .val (.lst (errs d)), q6, q7] s) fun o s' => o = .nx [q0, q1, q2, q3, .val d, .val (.lst (errs d)), q6, q7] ∧ s' = s := by
  obtain ⟨z, hz, ok⟩ := T.rz
  unfold inB
  bv_omega
  refine u_now hz ?_
  bv_omega
  refine Ok.use (right_ok hz ok) ?_
  refine b_f rfl ?_
  refine z_snil ?_


  bv_omega
  rcases T with T | ⟨k, xs, rfl, nk, ek, lk, ck⟩
  · refine u_now (T s).2 ?_
    refine b_f rfl ?_
    bv_omega
    exact ⟨rfl, rfl⟩
  · have tk := cl_tag ck
    have ck2 : ∀ x ∈ xs ++ [.str "later"], ∃ p, Cl x p := fun x hx => by
      rcases List.mem_append.mp hx with hx | hx
      · exact ck x hx
      · rw [List.mem_singleton.mp hx]
        exact ⟨_, cl_str later_ok (by decide)⟩
    refine u_now (a := .bl true) (by unfold gIsi; dsimp only; unfold ty7; dsimp only; rw [lcG_of ek tk]; rfl) ?_
    refine b_t rfl ?_
    refine z_seq ?_
    refine z_appC ?_
    refine z_var (by with_unfolding_all rfl) ?_
    refine ⟨⟨_, lcG_of ek tk⟩, ?_⟩
    bv_omega
    refine ⟨_, lcG_of ek tk, by omega, ?_⟩
    have e1 : (s.set k (xs ++ [.str "later"]))[k]? = some (xs ++ [.str "later"]) := set_get ek
    have e2 : (s.set k (xs ++ [.str "later"])).set k xs = s := by rw [List.set_set]; exact set_self ek
    have l2 : (xs ++ [D.str "later"]).length ≤ 20 := by rw [List.length_append, List.length_singleton]; omega
    generalize s.set k (xs ++ [.str "later"]) = s1 at e1 e2
    obtain ⟨z2, hz2, ok2⟩ := rz_cell e1 ck2 l2
    refine z_seq ?_
    bv_omega
    refine z_seqI ?_
    bv_omega
    refine ⟨_, .inl rfl, ?_⟩
    refine ⟨by show (errs (.cell k)).length ≤ _; rw [List.length_map]; decide, ?_⟩
    refine comp_all (fun _ => false) id rfl _ (fun x hx => ?_) ?_
    · obtain ⟨n, hn, rfl⟩ := List.mem_map.mp hx
      refine ⟨_, rfl, ?_, fun h => by cases h⟩
      bv_omega
      refine z_errV ?_
      bv_omega
      refine ⟨_, _, rfl, hn, ?_⟩
      bv_omega
      refine u_now hz2 ?_
      bv_omega
      refine u_now hz2 ?_
      refine u_neS ok2 ?_
      exact ⟨rfl, rfl⟩
    · bv_omega
      refine ⟨by simp, ?_⟩
      rw [flt_no]
      refine u_ne (p := .list []) (q := .list []) rfl rfl ?_
      refine b_f rfl ?_
      bv_omega
      refine z_popC ?_
      bv_omega
      refine ⟨_, lcG_of e1 (cl_tag ck2), by simp, ?_⟩
      rw [List.dropLast_concat, e2]
      exact ⟨rfl, rfl⟩
end K01

/-! L01: one purse; the law. -/
namespace K01
open PySem L2 LW
local macro_rules | `(tactic| bv_omega) => `(tactic| (repeat (first | with_reducible first | refine z_var (by with_unfolding_all rfl) ?_ | refine z_pk (by with_unfolding_all rfl) ?_ | refine z_pkO (by with_unfolding_all rfl) ?_ | refine z_retO (by with_unfolding_all rfl) ?_ | refine z_dictO (by with_unfolding_all rfl) ?_ | refine z_c ?_ | refine z_op ?_ | refine z_nil ?_ | refine z_cons ?_ | refine z_tup ?_ | refine z_lst ?_ | refine z_L ?_ | refine z_bi ?_ | refine z_call ?_ | refine z_meth ?_ | refine z_prop ?_ | refine z_fld ?_ | refine z_make ?_ | refine z_not ?_ | refine z_neg ?_ | refine z_bits ?_ | refine t_of ?_ | refine t_not ?_ | refine z_slN ?_ | refine z_oN ?_ | refine z_oS ?_ | refine z_snil ?_ | refine z_seq ?_ | refine z_set ?_ | refine z_own ?_ | refine z_ret ?_ | refine z_retC ?_ | refine z_drop ?_ | refine z_frz ?_ | refine z_app ?_ | refine z_appC ?_ | refine z_putC ?_ | refine z_for ?_ | refine z_lc ?_ | refine z_yes ?_ | refine z_kv ?_ | refine z_ko ?_ | refine z_par ?_ | refine z_unp ?_ | refine z_sfld ?_ | refine z_rg1 ?_ | refine z_rg2 ?_ | refine z_rg3 ?_ | refine z_and ?_ | refine z_or ?_ | refine z_eif ?_ | refine t_and ?_ | refine t_or ?_ | refine z_sif ?_ | refine u_add ?_ | refine u_sub ?_ | refine u_lt ?_ | refine u_le ?_ | refine u_gt ?_ | refine u_ge ?_ | refine u_isN ?_ | refine u_notN ?_ | refine z_par3 ?_ | refine z_dcl ?_ | refine z_cel ?_ | refine z_putDC ?_ | refine z_clrC ?_ | refine z_ownD ?_ | refine z_lenSN ?_ | refine z_D ?_ | refine z_dComp ?_ | refine z_lc2 ?_ | refine z_sn ?_ | refine z_makeC ?_ | refine z_methC ?_ | refine z_fldC ?_ | refine z_sfldC ?_ | refine z_xSet ?_ | refine z_methX ?_ | refine z_methCX ?_ | refine z_xIfE ?_ | refine z_xEL ?_ | refine z_xPar2 (by decide) ?_ | refine z_kD2 ?_ | refine z_par2 (by decide) ?_ | refine z_d0 ?_ | refine z_xBare ?_ | refine z_xFrz ?_ | refine z_xFor ?_ | refine z_sortIt ?_ | refine z_lenO ?_ | refine z_xSeq ?_ | refine z_xIf ?_ | refine z_xRaise ?_ | refine z_xL ?_ | refine z_xNil ?_ | refine z_xDrop ?_ | refine z_xRet ?_ | refine z_eCallX ?_ | refine z_sTry ?_ | refine z_DT ?_ | refine z_t0 ?_ | refine z_Td ?_ | refine z_ownT ?_ | refine z_putT ?_ | refine z_frzT ?_ | refine z_par3T ?_ | refine z_toT ?_ | refine z_join ?_ | refine z_sw3 ?_ | refine z_err ?_ | refine z_err0 ?_ | refine z_errB ?_ | (with_reducible refine u_mul ?_ ?_; next => first | exact mulC_r (by decide) (by decide) | exact mulC_l (by decide) (by decide) | exact mulC_r (by omega) (by omega) | exact mulC_l (by omega) (by omega)) | (with_reducible refine u_mod ?_ ?_; next => first | decide | assumption | omega) | (with_reducible refine u_div ?_ ?_; next => first | exact divC_s (by decide) (by decide) | exact divC_s (by omega) (by omega)))))
abbrev forB : SS := (sFor (iSeq (eTup (aCons (eCall m__law_first [] (aCons (eVar 4) (aNil))) (aCons (eCall m__law_named [] (aCons (eVar 4) (aNil))) (aNil))))) (asgN 5)
  inB)
abbrev puB : SS := (sSeq (sSet 2 (eCall m__law_word [] (aCons (eVar 1) (aNil))))
  (sSeq (sSet 3 (eL (lDisp (aCons (eC (.int 0)) (aCons (eC (.str "")) (aCons (eCel (lDisp (aNil))) (aCons (eC (.bl false)) (aCons (eTup (aNil)) (aCons (eD (eBi gDictP (aCons (eL (lDisp (aNil))) (aNil)))) (aNil))))))))))
  (sSeq (sSet 4 (eCall m__law_one_of [] (aCons (eVar 1) (aCons (eOp oAdd (eL (lDisp (aCons (eCel (lDisp (aCons (eVar 2) (aNil)))) (aCons (eTup (aCons (eVar 2) (aCons (eC (.int 1)) (aNil)))) (aCons (eVar 2) (aCons (eC .non) (aCons (eC (.bl true)) (aCons (eCel (lDisp (aCons (eTup (aCons (eVar 2) (aCons (eL (lDisp (aNil))) (aNil)))) (aNil)))) (aCons (eCel (lDisp (aCons (eL (lDisp (aCons (eVar 2) (aCons (eTup (aNil)) (aNil))))) (aNil)))) (aNil)))))))))) (ePeek 3)) (aNil)))))
  forB)))
abbrev faB : SS := (sIf (bOr (bNot (bOf (eCall m__law_right [] (aCons (eCall m__law_first [] (aCons (eVar 4) (aNil))) (aCons (eBi gReprZ (aCons (ePeek 4) (aNil))) (aNil)))))) (bNot (bOf (eCall m__law_right [] (aCons (eCall m__law_named [] (aCons (eVar 4) (aNil))) (aCons (eBi gReprZ (aCons (ePeek 4) (aNil))) (aNil)))))))
  (sRet (eC (.bl false)))
  (sNil))
abbrev enB : SS := (sSeq (sFor (iSeq (eTup (aCons (eC (.int 0)) (aCons (eC (.str "")) (aCons (eC (.bl false)) (aCons (eTup (aNil)) (aNil))))))) (asgN 4)
  faB)
  (sSeq (sIf (bNot (bOf (eCall m__law_right [] (aCons (eCall m__law_bare [] aNil) (aCons (eC (.str "None")) (aNil))))))
  (sRet (eC (.bl false)))
  (sNil))
  (sSeq (sSet 7 (eL (lDisp (aCons (eErrB "NothingToUndo") (aCons (eErrB "NothingToRedo") (aNil))))))
  (sSeq (sIf (bOr (bOf (eOp oNe (eL (lComp (iSeq (eVar 7)) (asgN 6) (bYes) (eCall m__law_code [] (aCons (eVar 6) (aNil))) [6])) (eL (lDisp (aCons (eL (lDisp (aCons (eC (.int 26)) (aNil)))) (aCons (eL (lDisp (aCons (eC (.int 27)) (aNil)))) (aNil))))))) (bOr (bNot (bOf (eCall m__law_is_error [] (aCons (eOp oIx (ePeek 7) (eC (.int 0))) (aNil))))) (bNot (bOf (eCall m__law_is_error [] (aCons (eOp oIx (ePeek 7) (eC (.int 1))) (aNil)))))))
  (sRet (eC (.bl false)))
  (sNil))
  (sRet (eAnd (eCall m__law_is_error [] (aCons (eErrB "LeafError") (aNil))) (eOp oEq (eCall m__law_code [] (aCons (eErrB "LeafError") (aNil))) (eL (lDisp (aNil))))))))))

theorem for_ok {k0 : Nat} {s : Sto} {d : D} {q0 q1 q2 q3 q5 q6 q7 : Sl} (T : Th k0 s d) :
    Ok (forB [q0, q1, q2, q3, .val d, q5, q6, q7] s) fun o s' => (∃ q5, o = .nx [q0, q1, q2, q3, .val d, q5, q6, q7]) ∧ s' = s := by
  unfold forB
  refine z_for ?_
  refine z_seqI ?_
  bv_omega
  refine Ok.use (first_ok d s) ?_
  bv_omega
  refine Ok.use (named_ok d s) ?_
  bv_omega
  refine ⟨by simp, _, .inr rfl, ?_⟩
  refine (loop_inv (fun i env s' => (∃ q5, env = [q0, q1, q2, q3, .val d, q5, q6, q7]) ∧ s' = s) _ 0 _ _ ⟨⟨_, rfl⟩, rfl⟩ ?_ (fun _ _ _ => rfl)).mono ?_
  · rintro i x e s' hx ⟨⟨q5, rfl⟩, rfl⟩
    have hx : x = .lst (errs d) := by
      have := List.mem_of_getElem? hx
      rcases List.mem_cons.mp this with h | h
      · exact h
      · exact List.mem_singleton.mp h
    subst hx
    refine ⟨rfl, _, rfl, ?_⟩
    refine (inner T).mono ?_
    rintro o s'' ⟨rfl, rfl⟩
    exact ⟨_, .inl rfl, ⟨_, rfl⟩, rfl⟩
  · rintro o s' ⟨e, rfl, ⟨q5, rfl⟩, rfl⟩
    exact ⟨⟨_, rfl⟩, rfl⟩
theorem u_addL {s : Sto} {x y : D} {xs ys : List D} {Q : D → Prop} (hx : lstM s x = some xs) (hy : lstM s y = some ys) (hl : xs.length + ys.length ≤ 1000000) (q : Q (.lst (xs ++ ys))) : Od (oAdd x y s) Q := by
  refine ⟨_, ?_, q⟩
  have e : asL oCat x y s = some (.lst (xs ++ ys)) := by
    unfold asL oCat
    rw [hx, hy]
    dsimp only
    rw [if_pos hl]
  have e1 : oAdd x y s = (orO (asL oCat) oCatT) x y s := by
    cases x with
    | lst _ => rfl
    | cell _ => rfl
    | _ => cases hx
  rw [e1]
  unfold orO
  rw [e]
theorem app_get {st ys : Sto} {j : Nat} {x : List D} (e : st[j]? = some x) : (st ++ ys)[j]? = some x := by
  rw [List.getElem?_append_left (List.getElem?_eq_some_iff.mp e).1]
  exact e
theorem app_last {st : Sto} {x : List D} : (st ++ [x])[st.length]? = some x := by
  rw [List.getElem?_append_right (Nat.le_refl _), Nat.sub_self]
  rfl
theorem sh_l0 : Sh (.list []) 3 := sh_list (n := 0) fun _ h => by cases h
theorem sh_t0 : Sh (.tuple []) 3 := sh_tup (n := 0) fun _ h => by cases h
theorem cl_two {a b : D} {p q : PyData} (ha : ∀ (s : Sto) (n : Nat), toPy (n + 9) s a = some p) (hb : ∀ (s : Sto) (n : Nat), toPy (n + 9) s b = some q) (s : Sto) (n : Nat) : mapO (toPy (n + 9) s) [a, b] = some [p, q] := by
  unfold mapO
  rw [ha s n]
  dsimp only
  unfold mapO
  rw [hb s n]
  rfl
theorem sh_two {p q : PyData} {n : Nat} (hp : Sh p n) (hq : Sh q n) : ∀ x ∈ [p, q], Sh x n := fun x hx => by
  rcases List.mem_cons.mp hx with rfl | hx
  · exact hp
  · rw [List.mem_singleton.mp hx]
    exact hq
theorem cl_t1 {z : Str} (h : PyData.strOk z = true) (l : z.length ≤ 8) : Cl (.tup [.str z, .lst []]) (.tuple [.str z, .list []]) := by
  refine ⟨fun s n => ?_, sh_mono (sh_tup (n := 82) (sh_two (sh_mono (sh_str h) (by omega)) (sh_mono sh_l0 (by decide)))) (by show (82 + 2) * 2 + 3 ≤ 1000; decide)⟩
  show (match mapO (toPy (n + 9) s) [.str z, .lst []] with | some ps => some (PyData.tuple ps) | none => none) = _
  rw [cl_two (fun s n => py_str h) (fun s n => rfl) s n]
theorem cl_t2 {z : Str} (h : PyData.strOk z = true) (l : z.length ≤ 8) : Cl (.lst [.str z, .tup []]) (.list [.str z, .tuple []]) := by
  refine ⟨fun s n => ?_, sh_mono (sh_list (n := 82) (sh_two (sh_mono (sh_str h) (by omega)) (sh_mono sh_t0 (by decide)))) (by show (82 + 2) * 2 + 3 ≤ 1000; decide)⟩
  show (match mapO (toPy (n + 9) s) [.str z, .tup []] with | some ps => some (PyData.list ps) | none => none) = _
  rw [cl_two (fun s n => py_str h) (fun s n => rfl) s n]
theorem cl_t3 {z : Str} (h : PyData.strOk z = true) (l : z.length ≤ 8) : Cl (.tup [.str z, .int 1]) (.tuple [.str z, .int 1]) := by
  refine ⟨fun s n => ?_, sh_mono (sh_tup (n := 82) (sh_two (sh_mono (sh_str h) (by omega)) (sh_mono (sh_int (by decide)) (by decide)))) (by show (82 + 2) * 2 + 3 ≤ 1000; decide)⟩
  show (match mapO (toPy (n + 9) s) [.str z, .int 1] with | some ps => some (PyData.tuple ps) | none => none) = _
  rw [cl_two (fun s n => py_str h) (fun s n => rfl) s n]
theorem pl_dic : Pl (.dic [] []) := fun s => ⟨⟨_, rfl, by decide +kernel⟩, rfl⟩
theorem turn {k n : Nat} {s : Sto} {q0 q2 q3 q4 q5 q6 q7 : Sl} (P : Pc k n s) (hn : n < 2 ^ 40) :
    Ok (puB [q0, .val (.cell k), q2, q3, q4, q5, q6, q7] s) fun o s' => (∃ q2 q3 q4 q5 q6 q7, o = .nx [q0, .val (.cell k), q2, q3, q4, q5, q6, q7]) ∧ Pc k (n + 44) s' ∧ Keep k s s' := by
  unfold puB
  bv_omega
  refine wordK P (by omega) fun z s1 P1 K1 hz => ?_
  have l1 := P1.lt
  bv_omega
  iterate 3 (refine ⟨by simp, ?_⟩; bv_omega)
  refine u_now (a := ([], [])) rfl ?_
  bv_omega
  refine ⟨by simp, ?_⟩
  bv_omega
  iterate 9 (refine ⟨by simp, ?_⟩; bv_omega)
  refine u_addL rfl rfl (by simp) ?_
  bv_omega
  have zo := hz.ok
  have zl := hz.hi
  have c0 : Ce k (s1 ++ [[]] ++ [[D.str z]] ++ [[D.tup [.str z, .lst []]]] ++ [[D.lst [.str z, .tup []]]]) (.cell s1.length) := ⟨_, [], rfl, by omega, app_get (app_get (app_get app_last)), by simp, fun x hx => by cases hx⟩
  have c1 : Ce k (s1 ++ [[]] ++ [[D.str z]] ++ [[D.tup [.str z, .lst []]]] ++ [[D.lst [.str z, .tup []]]]) (.cell (s1 ++ [[]]).length) := ⟨_, [.str z], rfl, by rw [List.length_append]; omega, app_get (app_get app_last), by simp, fun x hx => by rw [List.mem_singleton.mp hx]; exact ⟨_, cl_str zo (by omega)⟩⟩
  have c2 : Ce k (s1 ++ [[]] ++ [[D.str z]] ++ [[D.tup [.str z, .lst []]]] ++ [[D.lst [.str z, .tup []]]]) (.cell (s1 ++ [[]] ++ [[D.str z]]).length) := ⟨_, [.tup [.str z, .lst []]], rfl, by rw [List.length_append, List.length_append]; omega, app_get app_last, by simp, fun x hx => by rw [List.mem_singleton.mp hx]; exact ⟨_, cl_t1 zo zl⟩⟩
  have c3 : Ce k (s1 ++ [[]] ++ [[D.str z]] ++ [[D.tup [.str z, .lst []]]] ++ [[D.lst [.str z, .tup []]]]) (.cell (s1 ++ [[]] ++ [[D.str z]] ++ [[D.tup [.str z, .lst []]]]).length) := ⟨_, [.lst [.str z, .tup []]], rfl, by rw [List.length_append, List.length_append, List.length_append]; omega, app_last, by simp, fun x hx => by rw [List.mem_singleton.mp hx]; exact ⟨_, cl_t2 zo zl⟩⟩
  refine oneK (((P1.app).app).app.app) (by omega) (by simp) (by simp) fun d s2 P3 K3 hd => ?_
  have T : Th k s2 d := by
    refine Th.keep ?_ K3
    rcases List.mem_append.mp hd with hd | hd
    · rcases List.mem_cons.mp hd with rfl | hd
      · exact .inr c1
      rcases List.mem_cons.mp hd with rfl | hd
      · exact .inl (pl_py (cl_t3 zo zl) fun _ => rfl)
      rcases List.mem_cons.mp hd with rfl | hd
      · exact .inl (pl_py (cl_str zo (by omega)) fun _ => rfl)
      rcases List.mem_cons.mp hd with rfl | hd
      · exact .inl (pl_py cl_non fun _ => rfl)
      rcases List.mem_cons.mp hd with rfl | hd
      · exact .inl (pl_py cl_bl fun _ => rfl)
      rcases List.mem_cons.mp hd with rfl | hd
      · exact .inr c2
      rcases List.mem_cons.mp hd with rfl | hd
      · exact .inr c3
      cases hd
    · rcases List.mem_cons.mp hd with rfl | hd
      · exact .inl (pl_py (cl_int (by decide)) fun _ => rfl)
      rcases List.mem_cons.mp hd with rfl | hd
      · exact .inl (pl_py (cl_str (strOk_of _) (by decide)) fun _ => rfl)
      rcases List.mem_cons.mp hd with rfl | hd
      · exact .inr c0
      rcases List.mem_cons.mp hd with rfl | hd
      · exact .inl (pl_py cl_bl fun _ => rfl)
      rcases List.mem_cons.mp hd with rfl | hd
      · exact .inl (pl_py cl_tup0 fun _ => rfl)
      rcases List.mem_cons.mp hd with rfl | hd
      · exact .inl pl_dic
      cases hd
  have K4 : Keep k s s2 := (K1.trans (((Keep.app.trans Keep.app).trans Keep.app).trans Keep.app)).trans K3
  refine (for_ok T).mono ?_
  rintro o s' ⟨⟨q5, rfl⟩, rfl⟩
  exact ⟨⟨_, _, _, _, _, _, rfl⟩, P3, K4⟩
end K01

/-! Q01: the law. -/
namespace K01
open PySem L2 LW
local macro_rules | `(tactic| bv_omega) => `(tactic| (repeat (first | with_reducible first | refine z_var (by with_unfolding_all rfl) ?_ | refine z_pk (by with_unfolding_all rfl) ?_ | refine z_pkO (by with_unfolding_all rfl) ?_ | refine z_retO (by with_unfolding_all rfl) ?_ | refine z_dictO (by with_unfolding_all rfl) ?_ | refine z_c ?_ | refine z_op ?_ | refine z_nil ?_ | refine z_cons ?_ | refine z_tup ?_ | refine z_lst ?_ | refine z_L ?_ | refine z_bi ?_ | refine z_call ?_ | refine z_meth ?_ | refine z_prop ?_ | refine z_fld ?_ | refine z_make ?_ | refine z_not ?_ | refine z_neg ?_ | refine z_bits ?_ | refine t_of ?_ | refine t_not ?_ | refine z_slN ?_ | refine z_oN ?_ | refine z_oS ?_ | refine z_snil ?_ | refine z_seq ?_ | refine z_set ?_ | refine z_own ?_ | refine z_ret ?_ | refine z_retC ?_ | refine z_drop ?_ | refine z_frz ?_ | refine z_app ?_ | refine z_appC ?_ | refine z_putC ?_ | refine z_for ?_ | refine z_lc ?_ | refine z_yes ?_ | refine z_kv ?_ | refine z_ko ?_ | refine z_par ?_ | refine z_unp ?_ | refine z_sfld ?_ | refine z_rg1 ?_ | refine z_rg2 ?_ | refine z_rg3 ?_ | refine z_and ?_ | refine z_or ?_ | refine z_eif ?_ | refine t_and ?_ | refine t_or ?_ | refine z_sif ?_ | refine u_add ?_ | refine u_sub ?_ | refine u_lt ?_ | refine u_le ?_ | refine u_gt ?_ | refine u_ge ?_ | refine u_isN ?_ | refine u_notN ?_ | refine z_par3 ?_ | refine z_dcl ?_ | refine z_cel ?_ | refine z_putDC ?_ | refine z_clrC ?_ | refine z_ownD ?_ | refine z_lenSN ?_ | refine z_D ?_ | refine z_dComp ?_ | refine z_lc2 ?_ | refine z_sn ?_ | refine z_makeC ?_ | refine z_methC ?_ | refine z_fldC ?_ | refine z_sfldC ?_ | refine z_xSet ?_ | refine z_methX ?_ | refine z_methCX ?_ | refine z_xIfE ?_ | refine z_xEL ?_ | refine z_xPar2 (by decide) ?_ | refine z_kD2 ?_ | refine z_par2 (by decide) ?_ | refine z_d0 ?_ | refine z_xBare ?_ | refine z_xFrz ?_ | refine z_xFor ?_ | refine z_sortIt ?_ | refine z_lenO ?_ | refine z_xSeq ?_ | refine z_xIf ?_ | refine z_xRaise ?_ | refine z_xL ?_ | refine z_xNil ?_ | refine z_xDrop ?_ | refine z_xRet ?_ | refine z_eCallX ?_ | refine z_sTry ?_ | refine z_DT ?_ | refine z_t0 ?_ | refine z_Td ?_ | refine z_ownT ?_ | refine z_putT ?_ | refine z_frzT ?_ | refine z_par3T ?_ | refine z_toT ?_ | refine z_join ?_ | refine z_sw3 ?_ | refine z_err ?_ | refine z_err0 ?_ | refine z_errB ?_ | (with_reducible refine u_mul ?_ ?_; next => first | exact mulC_r (by decide) (by decide) | exact mulC_l (by decide) (by decide) | exact mulC_r (by omega) (by omega) | exact mulC_l (by omega) (by omega)) | (with_reducible refine u_mod ?_ ?_; next => first | decide | assumption | omega) | (with_reducible refine u_div ?_ ?_; next => first | exact divC_s (by decide) (by decide) | exact divC_s (by omega) (by omega)))))
theorem en_ok (q0 q1 q2 q3 q4 q5 q6 q7 : Sl) (s : Sto) : enB [q0, q1, q2, q3, q4, q5, q6, q7] s = some (.rt (.bl true), s) := by kernel_rfl
theorem Pc.keep {k j n : Nat} {st s : Sto} (P : Pc k n st) (hk : k ≠ j) (K : Keep j st s) : Pc k n s := by
  obtain ⟨l, e, p⟩ := P
  exact ⟨l, K k l hk e, p⟩
theorem law_true (ns : List Int) (hl : ns.length ≤ 63) : ∃ st', m_law [.fro (ns.map D.int)] [] = some (.bl true, st') := by
  have H : Ok (m_law [.fro (ns.map D.int)] []) fun d _ => d = .bl true := by
    refine z_fn rfl ?_
    unfold b_law
    refine z_seq ?_
    refine z_for ?_
    refine z_seqI ?_
    bv_omega
    refine pursesK fun ks s P W => ?_
    refine ⟨_, .inl rfl, ?_⟩
    refine (loop_inv (fun i env s => (∃ p2 p3 p4 p5 p6 p7 p1, env = [.val (.fro (ns.map D.int)), p1, p2, p3, p4, p5, p6, p7]) ∧ ∀ i' k, i ≤ i' → ks[i']? = some k → Pc k 0 s) _ 0 _ _ ⟨⟨_, _, _, _, _, _, _, rfl⟩, fun i' k _ e => P k (List.mem_of_getElem? e)⟩ ?_ (fun _ _ _ => rfl)).mono ?_
    · rintro i y e s hy ⟨⟨p2, p3, p4, p5, p6, p7, p1, rfl⟩, P1⟩
      rw [List.getElem?_map] at hy
      obtain ⟨k, hk, rfl⟩ := Option.map_eq_some_iff.mp hy
      rw [Nat.zero_add] at P1 ⊢
      refine ⟨rfl, _, rfl, ?_⟩
      refine (turn (P1 i k (Nat.le_refl _) hk) (by decide)).mono ?_
      rintro o s' ⟨⟨q2, q3, q4, q5, q6, q7, rfl⟩, P2, K2⟩
      refine ⟨_, .inl rfl, ⟨_, _, _, _, _, _, _, rfl⟩, fun i' k' hi e => (P1 i' k' (by omega) e).keep ?_ K2⟩
      obtain ⟨h1, e1⟩ := List.getElem?_eq_some_iff.mp hk
      obtain ⟨h2, e2⟩ := List.getElem?_eq_some_iff.mp e
      have := List.pairwise_iff_getElem.mp W i i' h1 h2 (by omega)
      rw [e1, e2] at this
      exact fun z => this z.symm
    · rintro o s' ⟨e, rfl, ⟨p2, p3, p4, p5, p6, p7, p1, rfl⟩, P1⟩
      refine Ok.use (en_ok _ _ _ _ _ _ _ _ _) ?_
      rfl
  obtain ⟨d, st', e, rfl⟩ := H
  exact ⟨st', e⟩
end K01

theorem PySem.Challenge.cw_leafwaits_k01_errors_made_holds : PySem.Challenge.rw_leafwaits_k01_errors_made.Holds := by
  exact K01.hmain K01.law_true
