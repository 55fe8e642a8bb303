import PyProof.Rows.All
import Wide.All
import OpenK.AllK
import Wide.FinOn
import HandS.ForMost
import HandS.Wide
import HandS.WideBits
import HandS.TupAny
import HandS.TupLe
import HandS.IsInst
import HandS.RaiseMore
import HandS.Property
import HandS.MakeKw
import HandS.Defaults
import HandS.SetFor
import HandS.Strs
import HandS.SortInts
import HandS.Style
import HandS.More
import HandS.Deep
import HandS.Text
import HandS.DeepEq
import HandS.DictEq
import HandS.DictComp
import HandS.ForExc
import HandS.TryMany
import HandS.ExcInit
import KE.KExcSuper
import KE.KSuper
import HandS.ExcField
import HandS.TupSets
import PyProof.StrLawsRepr
import KE.DataCmp
import HandS.Finally
import HandS.ListItems
import HandS.ExcOwn
import HandS.OwnEq
import HandS.SortOrd
import HandS.DictTup
import HandS.Head0
import HandS.Head1
import HandS.Head2
import HandS.HeadHook1
import HandS.HeadHook2
import HandS.HeadNt
import HandS.Conv
import KE.KDictDisplayH
import PyProof.ReprRoads
import HandS.StrMore
import HandS.Codes
import PySem.Challenge.RW_leafwaits_k94_whole_texts_of_all_small_t
import KE.RegKIsAll
import KE.KStateDown
namespace PySem
namespace LeafX
open PySem.W PySem.Calls PyProof.Rows PySem.HandSPX
structure Ps where
  (p1 p2 p3 a1 a2 a3 a4 b1 b2 b3 b4 : Pos)
def iA (p : Ps) : Arguments := { posonlyargs := [], args := [{ arg := "self", annotation := none, pos := p.p1 }, { arg := "value", annotation := none, pos := p.p2 }], vararg := none, kwonlyargs := [], kw_defaults := [], kwarg := none, defaults := [.Constant .none 0 p.p3] }
def iB (p : Ps) : List Stmt := [.Expr (.Call (.Attribute (.Call (.Name "super" p.a1) [] [] p.a2) "__init__" p.a3) [] [] p.a4) p.a4, .Assign [.Attribute (.Name "self" p.b1) "value" p.b2] (.Name "value" p.b3) p.b4]
def iS : Scope := { kind := .function, names := [(PySem.Str.ofString "self", .local), (PySem.Str.ofString "value", .local), (PySem.Str.ofString "__class__", .free), (PySem.Str.ofString "super", .globalImplicit)], isGenerator := false, isCoroutine := false, more := [] }
end LeafX
end PySem
namespace LW
open PySem L2 PyProof.Rows
section
variable {K : PySem.W.Frag} {h : Heap} {mg : Str → Option Value} {x cn m qual : Str} {st : Stmt}
/-- a Bool that tells an equation -/
def eqB {α : Type} [DecidableEq α] (a b : α) : Bool := decide (a = b)
theorem eqB_ok {α : Type} [DecidableEq α] {a b : α} (h : eqB a b = true) : a = b := of_decide_eq_true h
theorem bsplit {a b : Bool} (h : (a && b) = true) : a = true ∧ b = true := Bool.and_eq_true_iff.mp h
/-- what isi1_mk asks -/
def isB (K : PySem.W.Frag) (cn : Str) : Bool := PySem.W.plainGet K (He.ga K cn) Str.empty && (PySem.W.hasDictIn K (He.ga K cn) && (PySem.W.plainOver K (He.ga K cn) && (He.eqO (PySem.W.findIn K (.ref (He.ga K cn)) "__setattr__") (some (some (.builtin "object.__setattr__"))) &&
  (He.eqO (PySem.W.findIn K (.ref (He.ga K cn)) "__class__") (some (some (.builtin "object.__class__"))) && (He.eqO (PySem.W.specialIn K (.builtin "object.__class__") "__get__") (some (some (.builtin "getset_descriptor.__get__"))) && (eqB (PySem.W.takesIn K (.builtin "object.__class__")) (some true) && (eqB (PySem.W.mroIn K (He.ga K cn) (.type "object")) (some true) &&
  (eqB (PySem.W.kitOne K (.ref (He.ga K cn)) (.ref (He.ga K cn))) (some true) && ((["int", "str", "list", "tuple", "dict", "bool", "NoneType"] : List String).all (fun t => eqB (PySem.W.kitOne K (.type t) (.ref (He.ga K cn))) (some false)) && (["int", "str", "list", "tuple", "dict", "bool"] : List String).all fun t => eqB (PySem.W.kitOne K (.ref (He.ga K cn)) (.type t)) (some false))))))))))
def nfB (K : PySem.W.Frag) (cn : Str) (cs : List Str) : Bool := cs.all (fun c => PySem.W.notFirst K (He.ga K cn) (.ref (He.ga K c))) && (["int", "str", "list", "tuple", "dict", "bool", "NoneType"] : List String).all fun t => PySem.W.notFirst K (He.ga K cn) (.type t)
end
end LW
namespace LW
open PySem PySem.W L2 PyProof.Rows
open PySem.LeafX PySem.HandSPX
/-- where __init__ of the class stands -/
def liA (K : Frag) (cn : Str) : Addr := He.ma K (He.ga K cn) "__init__"
abbrev LfV : Type := Option (Str × Str × Arguments × FuncBody × Scope × Addr × List Str × Addr)
def lfW (K : Frag) (cn : Str) : LfV := match K.lookup (liA K cn) with
  | some ⟨_, _, .func fd, _⟩ => some (fd.name, fd.qualname, fd.params, fd.body, fd.scope, fd.globals, fd.closure.map (·.1), fd.builtins)
  | _ => none
abbrev LfD : Type := Str × Str × Ps
def lfV (d : LfD) : LfV := some ("__init__", d.2.1, iA d.2.2, .stmts (iB d.2.2), iS, mainGlobals, ["__class__"], builtinsNs)
inductive Vt where
  | nil
  | node (b : Bool) (l r : Vt)
def Vt.has : Nat → Vt → Nat → Bool
  | 0, _, _ => false
  | _ + 1, .nil, _ => false
  | f + 1, .node b l r, n => match Nat.ble n 1 with
    | true => b
    | false => match Nat.beq (n % 2) 0 with
      | true => Vt.has f l (n / 2)
      | false => Vt.has f r (n / 2)
def Vt.put : Nat → Vt → Nat → Vt
  | 0, v, _ => v
  | f + 1, .nil, n => match Nat.ble n 1 with
    | true => .node true .nil .nil
    | false => match Nat.beq (n % 2) 0 with
      | true => .node false (Vt.put f .nil (n / 2)) .nil
      | false => .node false .nil (Vt.put f .nil (n / 2))
  | f + 1, .node b l r, n => match Nat.ble n 1 with
    | true => .node true l r
    | false => match Nat.beq (n % 2) 0 with
      | true => .node b (Vt.put f l (n / 2)) r
      | false => .node b l (Vt.put f r (n / 2))
def ddp : List Nat → Vt → List Nat
  | [], _ => []
  | a :: r, v => match Vt.has 40 v (a + 1) with
    | true => ddp r v
    | false => a :: ddp r (Vt.put 40 v (a + 1))
def asV (g : Addr → Option Obj) : Nat → List Addr
  | 0 => [mainGlobals, cStatics]
  | n + 1 => ddp (asV g n ++ (asV g n).flatMap fun a => match g a with
    | some o => He.refsD o
    | none => []) .nil
abbrev AlC : Type := He.AlD × Bool × List LfV
def obsC (n : Nat) (fa : List He.Fa) (fn : List He.DefD) (ln : List LfD) (ex : Frag → Bool) (g : Addr → Option Obj) : AlC := (He.obsD fa fn (He.frG g (asV g n)), ex (He.frG g (asV g n)), ln.map fun d => lfW (He.frG g (asV g n)) d.1)
/-- what the end leans on -/
structure SaysC (fa : List He.Fa) (fn : List He.DefD) (ln : List LfD) (ex : Frag → Bool) (K : Frag) : Prop where
  d : He.SaysD fa fn K
  ex : ex K = true
  l : (ln.map fun d => lfW K d.1) = ln.map lfV
def hookC (n : Nat) (fa : List He.Fa) (fn : List He.DefD) (ln : List LfD) (ex : Frag → Bool) : Hook where
  α := AlC
  obs := fun s => obsC n fa fn ln ex s.heap.get?
  val := fun _ => (He.valD fn, true, ln.map lfV)
  says := fun _ h => ∃ K : Frag, K.In h ∧ SaysC fa fn ln ex K
  of := fun _ _ e => ⟨_, He.frG_in, congrArg (fun z : AlC => z.1) e, congrArg (fun z : AlC => z.2.1) e, congrArg (fun z : AlC => z.2.2) e⟩
  keeps := fun _ _ _ ⟨K, hK, c⟩ k => ⟨K, Frag.In.keeps hK k, c⟩
theorem obsC_eq {n : Nat} {fa : List He.Fa} {fn : List He.DefD} {ln : List LfD} {ex : Frag → Bool} {g : Addr → Option Obj} {s : Shared} (h : ∀ a, g a = s.heap.get? a) : obsC n fa fn ln ex g = (hookC n fa fn ln ex).obs s := by
  have e : g = s.heap.get? := funext h
  rw [e] <;> rfl
def andL : List Bool → Bool
  | [] => true
  | b :: r => b && andL r
end LW
namespace K94
open PySem L2 LW PyProof.Rows
def topS (i : Nat) : Stmt := PySem.Challenge.pw_leafwaits_k94_whole_texts_of_all_small_t.main.body.getD i (.Pass ⟨0, 0, 0, 0⟩)
abbrev CS : List Str := ["Rule"]
abbrev s__law_purse : Stmt := topS 28
abbrev s__law_purses : Stmt := topS 31
abbrev s__law_mixed : Stmt := topS 29
abbrev s__law_draw : Stmt := topS 30
abbrev s__law_shuffled : Stmt := topS 33
abbrev s__law_word : Stmt := topS 34
abbrev s__law_one_of : Stmt := topS 32
abbrev s__law_wait : Stmt := topS 35
abbrev s__law_over : Stmt := topS 38
abbrev s__law_terms : Stmt := topS 39
abbrev s_check_rule : Stmt := topS 16
abbrev s_term_text : Stmt := topS 19
abbrev s_is_part : Stmt := topS 13
abbrev s_with_inside : Stmt := topS 14
abbrev s_copied : Stmt := topS 15
abbrev s_Rule_term : Stmt := inClass (topS 10) 1
abbrev s_rule_text : Stmt := topS 24
abbrev s_is_whole : Stmt := topS 8
abbrev s_is_name : Stmt := topS 7
abbrev s_is_term : Stmt := topS 12
abbrev s_are_terms : Stmt := topS 11
abbrev s_Rule___init__ : Stmt := inClass (topS 10) 0
abbrev s_whole_of : Stmt := topS 18
abbrev s_named_at : Stmt := topS 20
abbrev s_term_at : Stmt := topS 22
abbrev s_terms_at : Stmt := topS 21
abbrev s_rule_in : Stmt := topS 23
abbrev s_read_by : Stmt := topS 25
abbrev s_read_rule : Stmt := topS 26
abbrev s__law_number_text : Stmt := topS 36
abbrev s__law_term_text : Stmt := topS 37
abbrev s_Rule___eq__ : Stmt := inClass (topS 10) 2
abbrev s_law : Stmt := topS 40
def dfd (a : PySem.Str × Option PySem.Str) (n qn : PySem.Str) (st : Stmt) (dv : List He.Dv) : He.DefD := ⟨a, n, qn, defArgs st, defBody st, defScope st, dv, []⟩
def hnames0 : List PySem.Str := [("__name__" : PySem.Str), ("LeafError" : PySem.Str), ("InvalidTerm" : PySem.Str), ("InvalidRule" : PySem.Str), ("InvalidText" : PySem.Str), ("LETTERS" : PySem.Str), ("is_name" : PySem.Str), ("is_whole" : PySem.Str), ("Rule" : PySem.Str), ("are_terms" : PySem.Str)]
def hnames1 : List PySem.Str := [("is_term" : PySem.Str), ("is_part" : PySem.Str), ("with_inside" : PySem.Str), ("copied" : PySem.Str), ("check_rule" : PySem.Str), ("whole_of" : PySem.Str), ("term_text" : PySem.Str), ("named_at" : PySem.Str), ("terms_at" : PySem.Str), ("term_at" : PySem.Str)]
def hnames2 : List PySem.Str := [("rule_in" : PySem.Str), ("rule_text" : PySem.Str), ("read_by" : PySem.Str), ("read_rule" : PySem.Str), ("_law_purse" : PySem.Str), ("_law_mixed" : PySem.Str), ("_law_draw" : PySem.Str), ("_law_purses" : PySem.Str), ("_law_one_of" : PySem.Str), ("_law_shuffled" : PySem.Str)]
def hnames3 : List PySem.Str := [("_law_word" : PySem.Str), ("_law_wait" : PySem.Str), ("_law_number_text" : PySem.Str), ("_law_term_text" : PySem.Str), ("_law_over" : PySem.Str), ("_law_terms" : PySem.Str)]
def hnames : List PySem.Str := hnames0 ++ (hnames1 ++ (hnames2 ++ (hnames3)))
def D0 : He.DefD := dfd ("Rule", some "__eq__") "__eq__" "Rule.__eq__" (s_Rule___eq__) []
def D1 : He.DefD := dfd ("Rule", some "__init__") "__init__" "Rule.__init__" (s_Rule___init__) []
def D2 : He.DefD := dfd ("Rule", some "term") "term" "Rule.term" (s_Rule_term) []
def D3 : He.DefD := dfd ("_law_draw", none) "_law_draw" "_law_draw" (s__law_draw) []
def D4 : He.DefD := dfd ("_law_mixed", none) "_law_mixed" "_law_mixed" (s__law_mixed) []
def D5 : He.DefD := dfd ("_law_number_text", none) "_law_number_text" "_law_number_text" (s__law_number_text) []
def D6 : He.DefD := dfd ("_law_one_of", none) "_law_one_of" "_law_one_of" (s__law_one_of) []
def D7 : He.DefD := dfd ("_law_over", none) "_law_over" "_law_over" (s__law_over) []
def D8 : He.DefD := dfd ("_law_purse", none) "_law_purse" "_law_purse" (s__law_purse) []
def D9 : He.DefD := dfd ("_law_purses", none) "_law_purses" "_law_purses" (s__law_purses) []
def D10 : He.DefD := dfd ("_law_shuffled", none) "_law_shuffled" "_law_shuffled" (s__law_shuffled) []
def D11 : He.DefD := dfd ("_law_term_text", none) "_law_term_text" "_law_term_text" (s__law_term_text) []
def D12 : He.DefD := dfd ("_law_terms", none) "_law_terms" "_law_terms" (s__law_terms) []
def D13 : He.DefD := dfd ("_law_wait", none) "_law_wait" "_law_wait" (s__law_wait) []
def D14 : He.DefD := dfd ("_law_word", none) "_law_word" "_law_word" (s__law_word) []
def D15 : He.DefD := dfd ("are_terms", none) "are_terms" "are_terms" (s_are_terms) []
def D16 : He.DefD := dfd ("check_rule", none) "check_rule" "check_rule" (s_check_rule) []
def D17 : He.DefD := dfd ("copied", none) "copied" "copied" (s_copied) []
def D18 : He.DefD := dfd ("is_name", none) "is_name" "is_name" (s_is_name) []
def D19 : He.DefD := dfd ("is_part", none) "is_part" "is_part" (s_is_part) []
def D20 : He.DefD := dfd ("is_term", none) "is_term" "is_term" (s_is_term) []
def D21 : He.DefD := dfd ("is_whole", none) "is_whole" "is_whole" (s_is_whole) []
def D22 : He.DefD := dfd ("law", none) "law" "law" (s_law) []
def D23 : He.DefD := dfd ("named_at", none) "named_at" "named_at" (s_named_at) []
def D24 : He.DefD := dfd ("read_by", none) "read_by" "read_by" (s_read_by) []
def D25 : He.DefD := dfd ("read_rule", none) "read_rule" "read_rule" (s_read_rule) []
def D26 : He.DefD := dfd ("rule_in", none) "rule_in" "rule_in" (s_rule_in) []
def D27 : He.DefD := dfd ("rule_text", none) "rule_text" "rule_text" (s_rule_text) []
def D28 : He.DefD := dfd ("term_at", none) "term_at" "term_at" (s_term_at) []
def D29 : He.DefD := dfd ("term_text", none) "term_text" "term_text" (s_term_text) []
def D30 : He.DefD := dfd ("terms_at", none) "terms_at" "terms_at" (s_terms_at) []
def D31 : He.DefD := dfd ("whole_of", none) "whole_of" "whole_of" (s_whole_of) []
def D32 : He.DefD := dfd ("with_inside", none) "with_inside" "with_inside" (s_with_inside) []
def hfa0 : List He.Fa := [.meth "Rule" "__eq__", .mkr "Rule", .meth "Rule" "term", .glo "_law_draw", .glo "_law_mixed", .glo "_law_number_text", .glo "_law_one_of", .glo "_law_over", .glo "_law_purse", .glo "_law_purses"]
def hfa1 : List He.Fa := [.glo "_law_shuffled", .glo "_law_term_text", .glo "_law_terms", .glo "_law_wait", .glo "_law_word", .glo "are_terms", .glo "check_rule", .glo "copied", .glo "is_name", .glo "is_part"]
def hfa2 : List He.Fa := [.glo "is_term", .glo "is_whole", .glo "law", .glo "named_at", .glo "read_by", .glo "read_rule", .glo "rule_in", .glo "rule_text", .glo "term_at", .glo "term_text"]
def hfa3 : List He.Fa := [.glo "terms_at", .glo "whole_of", .glo "with_inside", .noat "Rule" "form", .glo "Rule", .glo "LeafError", .str "LETTERS" "abcdefghijklmnopqrstuvwxyz", .cls "Rule", .free "abs", .free "bool"]
def hfa4 : List He.Fa := [.free "dict", .free "int", .free "isinstance", .free "len", .free "list", .free "max", .free "min", .free "range", .free "repr", .free "str"]
def hfa5 : List He.Fa := [.free "sum", .free "tuple"]
def hfa : List He.Fa := hfa0 ++ (hfa1 ++ (hfa2 ++ (hfa3 ++ (hfa4 ++ (hfa5)))))
def hfn0 : List He.DefD := [D0, D1, D2, D3, D4, D5, D6, D7, D8, D9]
def hfn1 : List He.DefD := [D10, D11, D12, D13, D14, D15, D16, D17, D18, D19]
def hfn2 : List He.DefD := [D20, D21, D22, D23, D24, D25, D26, D27, D28, D29]
def hfn3 : List He.DefD := [D30, D31, D32]
def hfn : List He.DefD := hfn0 ++ (hfn1 ++ (hfn2 ++ (hfn3)))
def hln0 : List LfD := []
def hln : List LfD := hln0
def hex0 (K : PySem.W.Frag) : List Bool := [isB K "Rule", eqB (PySem.W.findIn K (.ref (He.ga K "Rule")) "__ne__") (some (some (.builtin "object.__ne__"))), nfB K "Rule" ["Rule"], eqB (PySem.W.mroIn K (He.ga K "Rule") (.type "object")) (some true)]
def hexl (K : PySem.W.Frag) : List Bool := hex0 K
def hex (K : PySem.W.Frag) : Bool := andL (hexl K)
abbrev HR : PySem.W.OpenRow := PySem.W.OpenLaw.row PySem.Challenge.rw_leafwaits_k94_whole_texts_of_all_small_t
abbrev hk : PySem.W.Hook := hookC 5 hfa hfn hln hex
def hob (s : PySem.W.SharedT) : AlC := obsC 5 hfa hfn hln hex (HandSHeadRun.getT s)
theorem hob_eq (s : PySem.W.SharedT) : hob s = hk.obs s.abs := obsC_eq (HandSHeadRun.getT_eq s)
set_option maxHeartbeats 0 in
theorem hrun (w : World) : HandSHeadRun.RunEq HR (PySem.W.view HR.prog [40]) hk hob 12000 hnames w := by
  intro os
  kernel_rfl
end K94
set_option Elab.async false
set_option linter.all false
set_option maxRecDepth 100000
set_option maxHeartbeats 4000000
/-! LwA: plain data for what stands in the heap; the relation of an environment of plain data with a frame; readings by plain functions. -/
namespace LW
open PySem L2

/-- plain data. fro: a list that nobody may write; cell k, dcl k, ocl k: the k-th thing that may still change: a list, a dict, an instance; obj: an instance that changes no more -/
inductive D where
  | non | bl (b : Bool) | int (i : Int) | str (x : Str) | ty (n : String)
  | tup (xs : List D) | lst (xs : List D) | fro (xs : List D) | cell (k : Nat)
  | obj (c : Str) (ns : List Str) (vs : List D) | cls (c : Str)
  | dic (ks : List Key) (vs : List D) | dit (ks : List (List Key)) (vs : List D)
  | dcl (k : Nat) | ocl (k : Nat) | hid (o : HO)
  deriving Inhabited

/-- what the module's names hold; the written part -/
structure Glob where
  mg : Str → Option Value
  K : PySem.W.Frag
/-- the protected addresses: they may still change -/
abbrev Prot := Addr → Prop
abbrev Sto := List (List D)

mutual
inductive Rep (mg : Glob) (N : Prot) (c : List Addr) (H : Hp) : V → D → Prop where
  | non : Rep mg N c H .non .non
  | bl (b : Bool) : Rep mg N c H (.bl b) (.bl b)
  | int (i : Int) : Rep mg N c H (.int i) (.int i)
  | str (x : Str) : Rep mg N c H (.str x) (.str x)
  | ty (n : String) : Rep mg N c H (.ty n) (.ty n)
  | cls {cn : Str} {C : Addr} (h : mg.mg cn = some (.ref C)) : Rep mg N c H (.ref C) (.cls cn)
  | tup {a : Addr} {vs : List V} {ds : List D} (h : H a = some (.tup vs)) (r : RepL mg N c H vs ds) : Rep mg N c H (.ref a) (.tup ds)
  | lst {a : Addr} {vs : List V} {ds : List D} (h : H a = some (.lst vs)) (n : ¬ N a) (r : RepL mg N c H vs ds) : Rep mg N c H (.ref a) (.lst ds)
  | fro {a : Addr} {o : Obj} {vs : List V} {ds : List D} (h : H a = some (.frz o (.lst vs))) (n : ¬ N a) (r : RepL mg N c H vs ds) : Rep mg N c H (.ref a) (.fro ds)
  | kro {a : Addr} {ns : List Int} (h : ∀ H' : Hp, SqL mg.K H' a (ns.map V.int)) : Rep mg N c H (.ref a) (.fro (ns.map D.int))
  | cell {k : Nat} {a : Addr} (h : c[k]? = some a) : Rep mg N c H (.ref a) (.cell k)
  | dcl {k : Nat} {a : Addr} (h : c[k]? = some a) : Rep mg N c H (.ref a) (.dcl k)
  | ocl {k : Nat} {a : Addr} (h : c[k]? = some a) : Rep mg N c H (.ref a) (.ocl k)
  | obj {a C dx : Addr} {fs : List (Str × V)} {cn : Str} {ns : List Str} {ds : List D} (hc : mg.mg cn = some (.ref C)) (h : H a = some (.ins C dx fs)) (n : ¬ N a) (hn : fs.map (·.1) = ns) (r : RepL mg N c H (fs.map (·.2)) ds) : Rep mg N c H (.ref a) (.obj cn ns ds)
  | dic {a : Addr} {kvs : List (Key × V)} {ks : List Key} {ds : List D} (h : H a = some (.dK kvs)) (n : ¬ N a) (hn : kvs.map (·.1) = ks) (r : RepL mg N c H (kvs.map (·.2)) ds) : Rep mg N c H (.ref a) (.dic ks ds)
  | dfz {a : Addr} {o : Obj} {kvs : List (Key × V)} {ks : List Key} {ds : List D} (h : H a = some (.frz o (.dK kvs))) (n : ¬ N a) (hn : kvs.map (·.1) = ks) (r : RepL mg N c H (kvs.map (·.2)) ds) : Rep mg N c H (.ref a) (.dic ks ds)
  | dit {a : Addr} {kvs : List (List Key × V)} {ks : List (List Key)} {ds : List D} (h : H a = some (.dT kvs)) (n : ¬ N a) (hn : kvs.map (·.1) = ks) (r : RepL mg N c H (kvs.map (·.2)) ds) : Rep mg N c H (.ref a) (.dit ks ds)
  | ditz {a : Addr} {o : Obj} {kvs : List (List Key × V)} {ks : List (List Key)} {ds : List D} (h : H a = some (.frz o (.dT kvs))) (n : ¬ N a) (hn : kvs.map (·.1) = ks) (r : RepL mg N c H (kvs.map (·.2)) ds) : Rep mg N c H (.ref a) (.dit ks ds)
inductive RepL (mg : Glob) (N : Prot) (c : List Addr) (H : Hp) : List V → List D → Prop where
  | nil : RepL mg N c H [] []
  | cons {v : V} {d : D} {vs : List V} {ds : List D} (h : Rep mg N c H v d) (t : RepL mg N c H vs ds) : RepL mg N c H (v :: vs) (d :: ds)
end

/-- a step of the heap as data sees it -/
structure Tr (N : Prot) (c : List Addr) (H : Hp) (N' : Prot) (c' : List Addr) (H' : Hp) : Prop where
  keep : ∀ a o, H a = some o → ¬ N a → H' a = some o
  new : ∀ a, N' a → N a ∨ H a = none
  pre : ∀ (k : Nat) a, c[k]? = some a → c'[k]? = some a
  tup : ∀ a vs, H a = some (.tup vs) → H' a = some (.tup vs)
section
variable {mg : Glob} {N N' : Prot} {c c' : List Addr} {H H' : Hp}
theorem Tr.own (t : Tr N c H N' c' H') {a : Addr} {u : HO} (h : H a = some u) (n : ¬ N a) : H' a = some u ∧ ¬ N' a :=
  ⟨t.keep _ _ h n, fun z => (t.new a z).elim n fun e => by rw [h] at e; cases e⟩
mutual
theorem Rep.tr {v : V} {d : D} (t : Tr N c H N' c' H') : Rep mg N c H v d → Rep mg N' c' H' v d
  | .non => .non
  | .bl b => .bl b
  | .int i => .int i
  | .str x => .str x
  | .ty n => .ty n
  | .cls h => .cls h
  | .tup h r => .tup (t.tup _ _ h) (RepL.tr t r)
  | .lst h n r => .lst (t.own h n).1 (t.own h n).2 (RepL.tr t r)
  | .fro h n r => .fro (t.own h n).1 (t.own h n).2 (RepL.tr t r)
  | .kro h => .kro h
  | .cell h => .cell (t.pre _ _ h)
  | .dcl h => .dcl (t.pre _ _ h)
  | .ocl h => .ocl (t.pre _ _ h)
  | .obj hc h n hn r => .obj hc (t.own h n).1 (t.own h n).2 hn (RepL.tr t r)
  | .dic h n hn r => .dic (t.own h n).1 (t.own h n).2 hn (RepL.tr t r)
  | .dfz h n hn r => .dfz (t.own h n).1 (t.own h n).2 hn (RepL.tr t r)
  | .dit h n hn r => .dit (t.own h n).1 (t.own h n).2 hn (RepL.tr t r)
  | .ditz h n hn r => .ditz (t.own h n).1 (t.own h n).2 hn (RepL.tr t r)
theorem RepL.tr {vs : List V} {ds : List D} (t : Tr N c H N' c' H') : RepL mg N c H vs ds → RepL mg N' c' H' vs ds
  | .nil => .nil
  | .cons h r => .cons (Rep.tr t h) (RepL.tr t r)
end
theorem RepL.length {vs : List V} {ds : List D} : RepL mg N c H vs ds → vs.length = ds.length
  | .nil => rfl
  | .cons _ r => by rw [List.length_cons, List.length_cons, RepL.length r]
theorem RepL.get {vs : List V} {ds : List D} : ∀ {i : Nat} {d : D}, RepL mg N c H vs ds → ds[i]? = some d → ∃ v, vs[i]? = some v ∧ Rep mg N c H v d
  | _, _, .nil, e => by simp at e
  | 0, _, .cons h _, e => by simp at e; subst e; exact ⟨_, rfl, h⟩
  | i + 1, d, .cons _ r, e => by
    obtain ⟨v, h1, h2⟩ := RepL.get (i := i) (d := d) r (by simpa using e)
    exact ⟨v, by simpa using h1, h2⟩
theorem RepL.append {vs us : List V} {ds es : List D} : RepL mg N c H vs ds → RepL mg N c H us es → RepL mg N c H (vs ++ us) (ds ++ es)
  | .nil, s => s
  | .cons h r, s => .cons h (RepL.append r s)
theorem RepL.take {vs : List V} {ds : List D} : ∀ (n : Nat), RepL mg N c H vs ds → RepL mg N c H (vs.take n) (ds.take n)
  | 0, _ => .nil
  | _ + 1, .nil => .nil
  | n + 1, .cons h r => .cons h (RepL.take n r)
theorem RepL.drop {vs : List V} {ds : List D} : ∀ (n : Nat), RepL mg N c H vs ds → RepL mg N c H (vs.drop n) (ds.drop n)
  | 0, r => r
  | _ + 1, .nil => .nil
  | n + 1, .cons _ r => RepL.drop n r
theorem RepL.set {v : V} {d : D} (h : Rep mg N c H v d) {vs : List V} {ds : List D} : ∀ (n : Nat), RepL mg N c H vs ds → RepL mg N c H (vs.set n v) (ds.set n d)
  | _, .nil => .nil
  | 0, .cons _ r => .cons h r
  | n + 1, .cons q r => .cons q (RepL.set h n r)
theorem RepL.ints : ∀ (ns : List Int), RepL mg N c H (ns.map V.int) (ns.map D.int)
  | [] => .nil
  | n :: r => .cons (.int n) (RepL.ints r)
theorem RepL.of_ints : ∀ {ns : List Int} {vs : List V}, RepL mg N c H vs (ns.map D.int) → vs = ns.map V.int
  | [], _, .nil => rfl
  | n :: r, _, .cons (.int _) t => by rw [RepL.of_ints t]; rfl
end

/-- what stands at the head of a cell that is no list: nothing is told by it -/
def tagD : D := .dit [[]] []
def isTag : List D → Bool
  | .dit [_] [] :: _ => true
  | _ => false
theorem RepL.noTag {mg : Glob} {N : Prot} {c : List Addr} {H : Hp} {vs : List V} {xs : List D} (r : RepL mg N c H vs xs) : isTag xs = false := by
  cases r with
  | nil => rfl
  | cons h t =>
    have go : ∀ (kvs : List (List Key × V)) (ks : List (List Key)) (ds ds0 : List D), kvs.map (·.1) = ks → RepL mg N c H (kvs.map (·.2)) ds → isTag (.dit ks ds :: ds0) = false := fun kvs ks ds ds0 hn r2 => by
      have l1 := congrArg List.length hn
      have l2 := r2.length
      rw [List.length_map] at l1 l2
      clear hn r2
      cases ds with
      | nil =>
        cases ks with
        | nil => rfl
        | cons _ _ => exact absurd (l1.symm.trans l2) (by simp)
      | cons _ _ =>
        cases ks with
        | nil => rfl
        | cons _ ks => cases ks <;> rfl
    cases h with
    | dit hh nn hn r2 => exact go _ _ _ _ hn r2
    | ditz hh nn hn r2 => exact go _ _ _ _ hn r2
    | _ => rfl
/-- what a cell holds -/
inductive CRep (mg : Glob) (N : Prot) (c : List Addr) (H : Hp) : HO → List D → Prop where
  | l {vs : List V} {xs : List D} (r : RepL mg N c H vs xs) : CRep mg N c H (.lst vs) xs
  | k {kvs : List (Key × V)} {ds : List D} (r : RepL mg N c H (kvs.map (·.2)) ds) : CRep mg N c H (.dK kvs) [tagD, .dic (kvs.map (·.1)) ds]
  | kz {od : Obj} {kvs : List (Key × V)} {ds : List D} (r : RepL mg N c H (kvs.map (·.2)) ds) : CRep mg N c H (.frz od (.dK kvs)) [tagD, .dic (kvs.map (·.1)) ds, .hid (.frz od (.dK kvs))]
  | t {kvs : List (List Key × V)} {ds : List D} (r : RepL mg N c H (kvs.map (·.2)) ds) : CRep mg N c H (.dT kvs) [tagD, .dit (kvs.map (·.1)) ds]
  | i {C dx : Addr} {cn : Str} {fs : List (Str × V)} {ds : List D} (hc : mg.mg cn = some (.ref C)) (r : RepL mg N c H (fs.map (·.2)) ds) : CRep mg N c H (.ins C dx fs) [tagD, .obj cn (fs.map (·.1)) ds]
theorem CRep.tr {mg : Glob} {N N' : Prot} {c c' : List Addr} {H H' : Hp} {o : HO} {xs : List D} (t : Tr N c H N' c' H') : CRep mg N c H o xs → CRep mg N' c' H' o xs
  | .l r => .l (r.tr t)
  | .k r => .k (r.tr t)
  | .kz r => .kz (r.tr t)
  | .t r => .t (r.tr t)
  | .i hc r => .i hc (r.tr t)
theorem CRep.lst {mg : Glob} {N : Prot} {c : List Addr} {H : Hp} {o : HO} {xs : List D} (h : CRep mg N c H o xs) (nt : isTag xs = false) : ∃ vs, o = .lst vs ∧ RepL mg N c H vs xs := by
  cases h with
  | l r => exact ⟨_, rfl, r⟩
  | k r => cases nt
  | kz r => cases nt
  | t r => cases nt
  | i hc r => cases nt
/-- a step of an expression: all that is no cell stays -/
structure Ex (N : Prot) (c : List Addr) (H : Hp) (N' : Prot) (c' : List Addr) (H' : Hp) : Prop where
  keep : ∀ a o, H a = some o → a ∉ c → H' a = some o
  new : ∀ a, N' a → N a ∨ H a = none
  mono : ∀ a, N a → N' a
  pre : ∀ (k : Nat) a, c[k]? = some a → c'[k]? = some a
  newc : ∀ a, a ∈ c' → a ∈ c ∨ H a = none
/-- the cells and the protected addresses stand well -/
structure Wd (mg : Glob) (N : Prot) (c : List Addr) (H : Hp) (st : Sto) : Prop where
  len : c.length = st.length
  sto : ∀ (k : Nat) a xs, c[k]? = some a → st[k]? = some xs → ∃ o, H a = some o ∧ CRep mg N c H o xs
  cn : ∀ a, a ∈ c → N a
  nd : c.Nodup
  trk : ∀ a, N a → H a ≠ none
/-- the list in a cell; the dict in a cell; the instance in a cell -/
def lcG (st : Sto) (k : Nat) : Option (List D) := match st[k]? with
  | some xs => match isTag xs with
    | true => none
    | false => some xs
  | none => none
theorem lcG_of {st : Sto} {k : Nat} {xs : List D} (e : st[k]? = some xs) (nt : isTag xs = false) : lcG st k = some xs := by
  unfold lcG
  rw [e]
  dsimp only
  rw [nt]
theorem lcG_some {st : Sto} {k : Nat} {xs : List D} (e : lcG st k = some xs) : st[k]? = some xs ∧ isTag xs = false := by
  unfold lcG at e
  split at e
  · rename_i ys h
    split at e
    · cases e
    · rename_i nt
      cases e
      exact ⟨h, nt⟩
  · cases e
theorem Wd.lstC {mg : Glob} {N : Prot} {c : List Addr} {H : Hp} {st : Sto} (W : Wd mg N c H st) {k : Nat} {a : Addr} {xs : List D} (hc : c[k]? = some a) (e : lcG st k = some xs) : ∃ vs, H a = some (.lst vs) ∧ RepL mg N c H vs xs := by
  obtain ⟨h1, h2⟩ := lcG_some e
  obtain ⟨o, ha, r⟩ := W.sto k a xs hc h1
  obtain ⟨vs, rfl, r2⟩ := r.lst h2
  exact ⟨vs, ha, r2⟩
/-- the dict in a cell, to be read; to be written -/
def dcG (st : Sto) (k : Nat) : Option (List Key × List D) := match st[k]? with
  | some [.dit [_] [], .dic ks ds] => some (ks, ds)
  | some [.dit [_] [], .dic ks ds, .hid _] => some (ks, ds)
  | _ => none
def dcU (st : Sto) (k : Nat) : Option (List Key × List D) := match st[k]? with
  | some [.dit [_] [], .dic ks ds] => some (ks, ds)
  | _ => none
abbrev unC (p : List Key × List D) : List D := [tagD, .dic p.1 p.2]
theorem Wd.dcU {mg : Glob} {N : Prot} {c : List Addr} {H : Hp} {st : Sto} (W : Wd mg N c H st) {k : Nat} {a : Addr} {p : List Key × List D} (hc : c[k]? = some a) (e : dcU st k = some p) : ∃ kvs, H a = some (.dK kvs) ∧ kvs.map (·.1) = p.1 ∧ RepL mg N c H (kvs.map (·.2)) p.2 := by
  unfold LW.dcU at e
  split at e
  · rename_i h
    cases e
    obtain ⟨o, ha, r⟩ := W.sto k a _ hc h
    cases r with
    | l r => have := r.noTag; cases this
    | k r => exact ⟨_, ha, rfl, r⟩
  · cases e
theorem Wd.dcG {mg : Glob} {N : Prot} {c : List Addr} {H : Hp} {st : Sto} (W : Wd mg N c H st) {k : Nat} {a : Addr} {p : List Key × List D} (hc : c[k]? = some a) (e : dcG st k = some p) : ∃ kvs, (H a = some (.dK kvs) ∨ ∃ od, H a = some (.frz od (.dK kvs))) ∧ kvs.map (·.1) = p.1 ∧ RepL mg N c H (kvs.map (·.2)) p.2 := by
  unfold LW.dcG at e
  split at e
  · rename_i h
    cases e
    obtain ⟨o, ha, r⟩ := W.sto k a _ hc h
    cases r with
    | l r => have := r.noTag; cases this
    | k r => exact ⟨_, .inl ha, rfl, r⟩
  · rename_i h
    cases e
    obtain ⟨o, ha, r⟩ := W.sto k a _ hc h
    cases r with
    | l r => have := r.noTag; cases this
    | kz r => exact ⟨_, .inr ⟨_, ha⟩, rfl, r⟩
  · cases e
section
variable {mg : Glob} {N N' N'' : Prot} {c c' c'' : List Addr} {H H' H'' : Hp} {st st' : Sto}
theorem Ex.refl : Ex N c H N c H := ⟨fun _ _ h _ => h, fun _ h => .inl h, fun _ h => h, fun _ _ h => h, fun _ h => .inl h⟩
theorem Ex.nc (x : Ex N c H N' c' H') (W : Wd mg N c H st) {a : Addr} {o : HO} (h : H a = some o) (n : a ∉ c) : a ∉ c' := fun z => (x.newc a z).elim n fun e => by rw [h] at e; cases e
theorem Ex.trans (x : Ex N c H N' c' H') (y : Ex N' c' H' N'' c'' H'') (W : Wd mg N c H st) : Ex N c H N'' c'' H'' where
  keep := fun a o h n => y.keep a o (x.keep a o h n) (x.nc W h n)
  new := fun a z => (y.new a z).elim (x.new a) fun e => by
    cases q : H a with
    | none => exact .inr rfl
    | some o =>
      by_cases hn : a ∈ c
      · exact .inl (W.cn a hn)
      · rw [x.keep a o q hn] at e; cases e
  mono := fun a z => y.mono a (x.mono a z)
  pre := fun k a h => y.pre k a (x.pre k a h)
  newc := fun a z => (y.newc a z).elim (x.newc a) fun e => by
    cases q : H a with
    | none => exact .inr rfl
    | some o =>
      by_cases hn : a ∈ c
      · exact .inl hn
      · rw [x.keep a o q hn] at e; cases e
theorem Wd.ntup (W : Wd mg N c H st) {a : Addr} {vs : List V} (h : H a = some (.tup vs)) : a ∉ c := fun z => by
  obtain ⟨k, hk⟩ := List.getElem?_of_mem z
  have hl : k < st.length := by rw [← W.len]; exact (List.getElem?_eq_some_iff.mp hk).1
  obtain ⟨o, ho, r⟩ := W.sto k a st[k] hk (List.getElem?_eq_getElem hl)
  rw [h] at ho
  cases ho
  cases r
theorem Ex.tr (x : Ex N c H N' c' H') (W : Wd mg N c H st) : Tr N c H N' c' H' := ⟨fun a o h n => x.keep a o h fun z => n (W.cn a z), x.new, x.pre, fun a vs h => x.keep a _ h (W.ntup h)⟩
theorem Ex.free (x : Ex N c H N' c' H') (W : Wd mg N c H st) (W' : Wd mg N' c' H' st') {a : Addr} (h : H' a = none) : H a = none := by
  cases q : H a with
  | none => rfl
  | some o =>
    by_cases hn : a ∈ c
    · exact absurd h (W'.trk a (x.mono a (W.cn a hn)))
    · rw [x.keep a o q hn] at h; cases h
theorem Wd.cnone (W : Wd mg N c H st) {a : Addr} (h : H a = none) : a ∉ c := fun z => W.trk a (W.cn a z) h
/-- an object is laid: as data -/
theorem Ex.laid (W : Wd mg N c H st) {p : Addr} {o : HO} (hp : H p = none) : Ex N c H N c (upd H p o) where
  keep := fun a u h _ => by rw [upd_ne (ne_of_none h hp)]; exact h
  new := fun _ h => .inl h
  mono := fun _ h => h
  pre := fun _ _ h => h
  newc := fun _ h => .inl h
/-- an object is laid and protected -/
theorem Ex.laidN (W : Wd mg N c H st) {p : Addr} {o : HO} (hp : H p = none) : Ex N c H (fun a => N a ∨ a = p) c (upd H p o) where
  keep := fun a u h _ => by rw [upd_ne (ne_of_none h hp)]; exact h
  new := fun a h => h.elim .inl fun e => by rw [e]; exact .inr hp
  mono := fun _ h => .inl h
  pre := fun _ _ h => h
  newc := fun _ h => .inl h
theorem Wd.ex0 (W : Wd mg N c H st) (x : Ex N c H N' c H') (hk : ∀ a o, H a = some o → H' a = some o) (hn : ∀ a, N' a → H' a ≠ none) : Wd mg N' c H' st :=
  ⟨W.len, fun k a xs h1 h2 => let ⟨vs, e, r⟩ := W.sto k a xs h1 h2; ⟨vs, hk _ _ e, r.tr (x.tr W)⟩, fun a h => x.mono a (W.cn a h), W.nd, hn⟩
theorem Wd.laid (W : Wd mg N c H st) {p : Addr} {o : HO} (hp : H p = none) : Wd mg N c (upd H p o) st :=
  W.ex0 (Ex.laid W hp) (fun a u h => by rw [upd_ne (ne_of_none h hp)]; exact h) fun a h e => by
    by_cases q : a = p
    · rw [q, upd_same] at e; cases e
    · rw [upd_ne q] at e; exact W.trk a h e
theorem Wd.laidN (W : Wd mg N c H st) {p : Addr} {o : HO} (hp : H p = none) : Wd mg (fun a => N a ∨ a = p) c (upd H p o) st :=
  W.ex0 (Ex.laidN W hp) (fun a u h => by rw [upd_ne (ne_of_none h hp)]; exact h) fun a h e => by
    by_cases q : a = p
    · rw [q, upd_same] at e; cases e
    · rw [upd_ne q] at e
      exact h.elim (fun z => W.trk a z e) q
/-- fewer protected ones -/
theorem Tr.less (h : ∀ a, N' a → N a) : Tr N c H N' c H := ⟨fun _ _ e _ => e, fun a z => .inl (h a z), fun _ _ e => e, fun _ _ e => e⟩
theorem Wd.less (W : Wd mg N c H st) (h : ∀ a, N' a → N a) (hc : ∀ a, a ∈ c → N' a) : Wd mg N' c H st :=
  ⟨W.len, fun k a xs h1 h2 => let ⟨vs, e, r⟩ := W.sto k a xs h1 h2; ⟨vs, e, r.tr (Tr.less h)⟩, hc, W.nd, fun a z => W.trk a (h a z)⟩
end

/-! ### slots and environments -/
/-- a slot: unknown; data; a list, an instance that this frame alone holds and may change -/
inductive Sl where
  | un | val (d : D) | own (xs : List D) | ownI (c : Str) (ns : List Str) (vs : List D) | ownD (ks : List Key) (vs : List D) | ownT (ks : List (List Key)) (vs : List D)
  deriving Inhabited
abbrev Env := List Sl
def Sl.isOwn : Sl → Bool
  | .own _ => true
  | .ownI _ _ _ => true
  | .ownD _ _ => true
  | .ownT _ _ => true
  | _ => false
def SlR (mg : Glob) (N : Prot) (c : List Addr) (H : Hp) : Sl → Option V → Prop
  | .un, _ => True
  | .val d, o => ∃ v, o = some v ∧ Rep mg N c H v d
  | .own xs, o => ∃ a vs, o = some (.ref a) ∧ H a = some (.lst vs) ∧ RepL mg N c H vs xs
  | .ownI cn ns ds, o => ∃ a C dx fs, o = some (.ref a) ∧ mg.mg cn = some (.ref C) ∧ H a = some (.ins C dx fs) ∧ fs.map (·.1) = ns ∧ RepL mg N c H (fs.map (·.2)) ds
  | .ownD ks ds, o => ∃ a kvs, o = some (.ref a) ∧ H a = some (.dK kvs) ∧ kvs.map (·.1) = ks ∧ RepL mg N c H (kvs.map (·.2)) ds
  | .ownT ks ds, o => ∃ a kvs, o = some (.ref a) ∧ H a = some (.dT kvs) ∧ kvs.map (·.1) = ks ∧ RepL mg N c H (kvs.map (·.2)) ds
/-- the entry of a def -/
structure En where
  H0 : Hp
  N0 : Prot
  c0 : List Addr
  self : Option Addr
structure Rel (mg : Glob) (E : En) (N : Prot) (c : List Addr) (env : Env) (st : Sto) (σ : L2.St) (H : Hp) : Prop where
  len : σ.length = env.length
  sl : ∀ (i : Nat) s, env[i]? = some s → SlR mg N c H s (σ[i]?.join)
  own : ∀ (i : Nat) s a, env[i]? = some s → s.isOwn = true → σ[i]? = some (some (.ref a)) → N a ∧ a ∉ c ∧ E.H0 a = none
  inj : ∀ (i j : Nat) s s' a, env[i]? = some s → s.isOwn = true → env[j]? = some s' → s'.isOwn = true → σ[i]? = some (some (.ref a)) → σ[j]? = some (some (.ref a)) → i = j
  wd : Wd mg N c H st
  n0 : ∀ a, E.N0 a → N a
  t0 : ∀ a, E.N0 a → E.H0 a ≠ none
  base : ∀ a o, E.H0 a = some o → a ∉ c → H a = some o
  pre : ∀ (k : Nat) a, E.c0[k]? = some a → c[k]? = some a
  newc : ∀ a, a ∈ c → a ∈ E.c0 ∨ E.H0 a = none
  slf : ∀ (i : Nat) cn ns ds a, env[i]? = some (.ownI cn ns ds) → σ[i]? = some (some (.ref a)) → E.self = some a
section
variable {mg : Glob} {E : En} {N N' : Prot} {c c' : List Addr} {H H' : Hp} {st st' : Sto} {env : Env} {σ : L2.St}
theorem join_some {α : Type} {o : Option (Option α)} {v : α} (h : o.join = some v) : o = some (some v) := by
  cases o with
  | none => cases h
  | some x => cases x with
    | none => cases h
    | some y => cases h; rfl
theorem SlR.ex (x : Ex N c H N' c' H') (W : Wd mg N c H st) {s : Sl} {o : Option V} (h : SlR mg N c H s o) (hn : s.isOwn = true → ∀ a, o = some (.ref a) → a ∉ c) : SlR mg N' c' H' s o := by
  cases s with
  | un => trivial
  | val d => obtain ⟨v, e, r⟩ := h; exact ⟨v, e, r.tr (x.tr W)⟩
  | own xs => obtain ⟨a, vs, e, ha, r⟩ := h; exact ⟨a, vs, e, x.keep _ _ ha (hn rfl a e), r.tr (x.tr W)⟩
  | ownI cn ns ds => obtain ⟨a, C, dx, fs, e, hc, ha, hm, r⟩ := h; exact ⟨a, C, dx, fs, e, hc, x.keep _ _ ha (hn rfl a e), hm, r.tr (x.tr W)⟩
  | ownD ks ds => obtain ⟨a, kvs, e, ha, hm, r⟩ := h; exact ⟨a, kvs, e, x.keep _ _ ha (hn rfl a e), hm, r.tr (x.tr W)⟩
  | ownT ks ds => obtain ⟨a, kvs, e, ha, hm, r⟩ := h; exact ⟨a, kvs, e, x.keep _ _ ha (hn rfl a e), hm, r.tr (x.tr W)⟩
theorem SlR.tracked {s : Sl} {o : Option V} (h : SlR mg N c H s o) (hs : s.isOwn = true) : ∃ a u, o = some (.ref a) ∧ H a = some u := by
  cases s with
  | un => cases hs
  | val d => cases hs
  | own xs => obtain ⟨a, vs, e, ha, r⟩ := h; exact ⟨a, _, e, ha⟩
  | ownI cn ns ds => obtain ⟨a, C, dx, fs, e, hc, ha, hm, r⟩ := h; exact ⟨a, _, e, ha⟩
  | ownD ks ds => obtain ⟨a, kvs, e, ha, hm, r⟩ := h; exact ⟨a, _, e, ha⟩
  | ownT ks ds => obtain ⟨a, kvs, e, ha, hm, r⟩ := h; exact ⟨a, _, e, ha⟩
theorem Rel.ex (R : Rel mg E N c env st σ H) (x : Ex N c H N' c' H') (W' : Wd mg N' c' H' st') : Rel mg E N' c' env st' σ H' where
  len := R.len
  sl := fun i s h => (R.sl i s h).ex x R.wd fun hs a e => (R.own i s a h hs (join_some e)).2.1
  own := fun i s a h hs e => by
    obtain ⟨n, nc, z⟩ := R.own i s a h hs e
    obtain ⟨b, u, eb, hb⟩ := (R.sl i s h).tracked hs
    rw [e] at eb
    cases eb
    exact ⟨x.mono a n, x.nc R.wd hb nc, z⟩
  inj := R.inj
  wd := W'
  n0 := fun a h => x.mono a (R.n0 a h)
  t0 := R.t0
  base := fun a o h n => by
    have nc : a ∉ c := fun z => n (by
      obtain ⟨k, hk⟩ := List.getElem?_of_mem z
      exact List.mem_of_getElem? (x.pre k a hk))
    exact x.keep a o (R.base a o h nc) nc
  pre := fun k a h => x.pre k a (R.pre k a h)
  newc := fun a h => (x.newc a h).elim (R.newc a) fun e => by
    cases q : E.H0 a with
    | none => exact .inr rfl
    | some o =>
      by_cases nc : a ∈ c
      · exact absurd e (R.wd.trk a (R.wd.cn a nc))
      · rw [R.base a o q nc] at e; cases e
  slf := R.slf
end

/-! ### readings by plain functions -/
abbrev Fx (α : Type) := Env → Sto → Option (α × Sto)
abbrev SE := Fx D
/-- what is told of a value: by the state ahead and the state behind -/
abbrev Told (α : Type) := Prot → List Addr → Hp → Prot → List Addr → Hp → V → α → Prop
def tX {α : Type} (mg : Glob) (R : Told α) (f : Fx α) : TE := fun σ H Q => ∃ (E : En) (N : Prot) (c : List Addr) (env : Env) (st : Sto) (d : α) (st' : Sto), Rel mg E N c env st σ H ∧ f env st = some (d, st') ∧
  ∀ v N' c' H', Ex N c H N' c' H' → Wd mg N' c' H' st' → R N c H N' c' H' v d → Q v H'
/-- data -/
def RE (mg : Glob) : Told D := fun _ _ _ N' c' H' v d => Rep mg N' c' H' v d
/-- data, or a list of the frame's own, looked at -/
def RepT (mg : Glob) (N : Prot) (c : List Addr) (H : Hp) (v : V) (d : D) : Prop :=
  Rep mg N c H v d ∨ ∃ a vs xs, v = .ref a ∧ d = .lst xs ∧ H a = some (.lst vs) ∧ a ∉ c ∧ RepL mg N c H vs xs
def RP (mg : Glob) : Told D := fun _ _ _ N' c' H' v d => RepT mg N' c' H' v d
/-- a new list, protected -/
def RN (mg : Glob) : Told (List D) := fun _ _ H N' c' H' v xs => ∃ p vs, v = .ref p ∧ H p = none ∧ N' p ∧ p ∉ c' ∧ H' p = some (.lst vs) ∧ RepL mg N' c' H' vs xs
abbrev tE (mg : Glob) (f : SE) : TE := tX mg (RE mg) f
abbrev tP (mg : Glob) (f : SE) : TE := tX mg (RP mg) f
abbrev tL (mg : Glob) (f : Fx (List D)) : TE := tX mg (RN mg) f
/-- the list as data -/
def eL (f : Fx (List D)) : SE := fun env st => (f env st).map fun p => (.lst p.1, p.2)

section
variable {X : Cx} {e : Expr}
theorem pe_weak {t t' : TE} (h : PE X e t) (w : ∀ σ H Q, t' σ H Q → t σ H Q) : PE X e t' := ⟨fun pins s σ H Q I q => h.run pins s σ H Q I (w σ H Q q)⟩
theorem pt_weak {t t' : TT} (h : PT X e t) (w : ∀ σ H Q, t' σ H Q → t σ H Q) : PT X e t' := ⟨fun pins s σ H Q I q => h.run pins s σ H Q I (w σ H Q q)⟩
theorem pa_weak {es : List Expr} {t t' : TA} (h : PA X es t) (w : ∀ σ H Q, t' σ H Q → t σ H Q) : PA X es t' := ⟨fun pos pins s σ H Q I q => h.run pos pins s σ H Q I (w σ H Q q)⟩
theorem ps_weak {s : Stmt} {t t' : TS} (h : PS X s t) (w : ∀ D σ H, t' D σ H → t D σ H) : PS X s t' := ⟨fun pins s σ H D I q => h.run pins s σ H D I (w D σ H q)⟩
theorem pss_weak {s : List Stmt} {t t' : TS} (h : PSs X s t) (w : ∀ D σ H, t' D σ H → t D σ H) : PSs X s t' := ⟨fun pins s σ H D I q => h.run pins s σ H D I (w D σ H q)⟩
theorem pi_weak {tg it : Expr} {t t' : TI} (h : PI X tg it t) (w : ∀ σ H R, t' σ H R → t σ H R) : PI X tg it t' := ⟨fun pins s σ H R I q => h.run pins s σ H R I (w σ H R q)⟩
end
section
variable {mg : Glob} {N N' : Prot} {c c' : List Addr} {H H' : Hp} {st st' : Sto} {v : V} {d : D} {X : Cx} {e : Expr}
theorem RepT.ex (x : Ex N c H N' c' H') (W : Wd mg N c H st) (h : RepT mg N c H v d) : RepT mg N' c' H' v d := by
  rcases h with h | ⟨a, vs, xs, rfl, rfl, ha, nc, r⟩
  · exact .inl (h.tr (x.tr W))
  · exact .inr ⟨a, vs, xs, rfl, rfl, x.keep _ _ ha nc, x.nc W ha nc, r.tr (x.tr W)⟩
/-- data may be looked at -/
theorem d_peek {f : SE} (h : PE X e (tE mg f)) : PE X e (tP mg f) := pe_weak h fun σ H Q ⟨E, N, c, env, st, d, st', R, q, k⟩ => ⟨E, N, c, env, st, d, st', R, q, fun v N' c' H' x W r => k v N' c' H' x W (.inl r)⟩
/-- a new list is data: protected no more -/
theorem RN.give {xs : List D} (W : Wd mg N c H st) (x : Ex N c H N' c' H') (W' : Wd mg N' c' H' st') (h : RN mg N c H N' c' H' v xs) : ∃ N'', Ex N c H N'' c' H' ∧ Wd mg N'' c' H' st' ∧ Rep mg N'' c' H' v (.lst xs) := by
  obtain ⟨p, vs, rfl, hp, np, nc, hv, r⟩ := h
  have less : ∀ a, (N' a ∧ a ≠ p) → N' a := fun a z => z.1
  refine ⟨fun a => N' a ∧ a ≠ p, ⟨x.keep, fun a z => x.new a z.1, fun a z => ⟨x.mono a z, fun e => W.trk a z (by rw [e]; exact hp)⟩, x.pre, x.newc⟩, W'.less less fun a z => ⟨W'.cn a z, fun e => nc (e ▸ z)⟩, ?_⟩
  exact .lst hv (fun z => z.2 rfl) (r.tr (Tr.less less))
theorem d_give {f : Fx (List D)} (h : PE X e (tL mg f)) : PE X e (tE mg (eL f)) := pe_weak h fun σ H Q ⟨E, N, c, env, st, d, st', R, q, k⟩ => by
  unfold eL at q
  cases qf : f env st with
  | none => rw [qf] at q; cases q
  | some p =>
    obtain ⟨xs, s1⟩ := p
    rw [qf] at q
    cases q
    refine ⟨E, N, c, env, st, xs, _, R, qf, fun v N' c' H' x W r => ?_⟩
    obtain ⟨N'', x2, W2, r2⟩ := r.give R.wd x W
    exact k v N'' c' H' x2 W2 r2
end
end LW

/-! LwB: expressions: names, constants, operators, comparisons, tests, displays, subscripts, slices. -/
namespace LW
open PySem L2 PyProof.Rows

/-- what is told can be carried back to an earlier state -/
def Back {α : Type} (mg : Glob) (R : Told α) : Prop := ∀ {N : Prot} {c : List Addr} {H : Hp} {st : Sto} {N1 : Prot} {c1 : List Addr} {H1 : Hp} {st1 : Sto} {N' : Prot} {c' : List Addr} {H' : Hp} {v : V} {d : α},
  Wd mg N c H st → Ex N c H N1 c1 H1 → Wd mg N1 c1 H1 st1 → R N1 c1 H1 N' c' H' v d → R N c H N' c' H' v d
section
variable {mg : Glob}
theorem back_E : Back mg (RE mg) := fun _ _ _ h => h
theorem back_N : Back mg (RN mg) := fun W x W1 ⟨p, vs, e, hp, r⟩ => ⟨p, vs, e, x.free W W1 hp, r⟩
end

/-! ### names and constants -/
def eVar (i : Nat) : SE := fun env st => match env[i]? with
  | some (.val d) => some (d, st)
  | _ => none
def ePeek (i : Nat) : SE := fun env st => match env[i]? with
  | some (.own xs) => some (.lst xs, st)
  | some (.val d) => some (d, st)
  | _ => none
def eC (d : D) : SE := fun _ st => some (d, st)
section
variable {mg : Glob} {X : Cx} {x : Str} {pos : Pos} {i : Nat}
theorem r_var {σ : L2.St} {H : Hp} {Q : VK} (h : tE mg (eVar i) σ H Q) : tVar i σ H Q := by
  obtain ⟨E, N, c, env, st, d, st', R, q, k⟩ := h
  unfold eVar at q
  split at q
  · rename_i d0 he
    cases q
    obtain ⟨v, e, r⟩ := R.sl i _ he
    exact ⟨v, join_some e, k v N c H Ex.refl R.wd r⟩
  · cases q
theorem d_var (i : Nat) {x : Str} {pos : Pos} (hN : X.N[i]? = some x := by rfl) (hv : Vis X.env.scope x := by first | exact Or.inl rfl | exact Or.inr (Or.inl rfl) | exact Or.inr (Or.inr rfl)) (hd : (x == ("__debug__" : Str)) = false := by decide)
    (hcd : (x == ("__classdict__" : Str)) = false := by decide) : PE X (.Name x pos) (tE mg (eVar i)) := pe_weak (pe_var hN hv hd hcd) fun _ _ _ h => r_var h
theorem r_peek {σ : L2.St} {H : Hp} {Q : VK} (h : tP mg (ePeek i) σ H Q) : tVar i σ H Q := by
  obtain ⟨E, N, c, env, st, d, st', R, q, k⟩ := h
  unfold ePeek at q
  split at q
  · rename_i xs he
    cases q
    obtain ⟨a, vs, e, ha, r⟩ := R.sl i _ he
    obtain ⟨n1, n2, n3⟩ := R.own i _ a he rfl (join_some e)
    exact ⟨.ref a, join_some e, k _ N c H Ex.refl R.wd (.inr ⟨a, vs, xs, rfl, rfl, ha, n2, r⟩)⟩
  · rename_i d0 he
    cases q
    obtain ⟨v, e, r⟩ := R.sl i _ he
    exact ⟨v, join_some e, k v N c H Ex.refl R.wd (.inl r)⟩
  · cases q
theorem d_look (i : Nat) {x : Str} {pos : Pos} (hN : X.N[i]? = some x := by rfl) (hv : Vis X.env.scope x := by first | exact Or.inl rfl | exact Or.inr (Or.inl rfl) | exact Or.inr (Or.inr rfl)) (hd : (x == ("__debug__" : Str)) = false := by decide)
    (hcd : (x == ("__classdict__" : Str)) = false := by decide) : PE X (.Name x pos) (tP mg (ePeek i)) := pe_weak (pe_var hN hv hd hcd) fun _ _ _ h => r_peek h
theorem r_c {v : V} {d : D} (hr : ∀ N c H, Rep mg N c H v d) {σ : L2.St} {H : Hp} {Q : VK} (h : tE mg (eC d) σ H Q) : tC v σ H Q := by
  obtain ⟨E, N, c, env, st, d', st', R, q, k⟩ := h
  cases q
  exact k v N c H Ex.refl R.wd (hr N c H)
theorem d_int {i : Int} {j pos} : PE X (.Constant (.int i) j pos) (tE mg (eC (.int i))) := pe_weak pe_int fun _ _ _ h => r_c (fun _ _ _ => .int i) h
theorem d_bl {b : Bool} {j pos} : PE X (.Constant (.bool b) j pos) (tE mg (eC (.bl b))) := pe_weak pe_bl fun _ _ _ h => r_c (fun _ _ _ => .bl b) h
theorem d_non {j pos} : PE X (.Constant .none j pos) (tE mg (eC .non)) := pe_weak pe_non fun _ _ _ h => r_c (fun _ _ _ => .non) h
theorem d_str {x : Str} {j pos} : PE X (.Constant (.str x) j pos) (tE mg (eC (.str x))) := pe_weak pe_str fun _ _ _ h => r_c (fun _ _ _ => .str x) h
/-- a constant of the module, a built-in class -/
theorem d_glob {x : Str} {v : V} {d : D} {u : Value} (hg : Gl X x) (hm : X.mg x = some u) (r : RelV v u) (hr : ∀ N c H, Rep mg N c H v d) (hd : (x == ("__debug__" : Str)) = false := by decide) : PE X (.Name x pos) (tE mg (eC d)) :=
  pe_weak (pe_glob hg hm r hd) fun _ _ _ h => r_c hr h
theorem d_ty {x : Str} {n : String} (hg : Gl X x) (hm : X.mg x = none) (hv : bootBuiltins x = some (.type n)) (hn : x ≠ "__name__" := by decide) (hd : (x == ("__debug__" : Str)) = false := by decide) : PE X (.Name x pos) (tE mg (eC (.ty n))) :=
  pe_weak (pe_bltn (v := .ty n) hg hm hv rfl hn hd) fun _ _ _ h => r_c (fun _ _ _ => .ty n) h
end

/-! ### what stands behind a value -/
/-- a list that may be joined to others; a list that may be read -/
def lstM (st : Sto) : D → Option (List D)
  | .lst xs => some xs
  | .cell k => lcG st k
  | _ => none
def lstR (st : Sto) : D → Option (List D)
  | .fro xs => some xs
  | d => lstM st d
section
variable {mg : Glob} {N : Prot} {c : List Addr} {H : Hp} {st : Sto} {u : V} {x : D}
theorem RepT.non (h : RepT mg N c H u .non) : u = .non := by
  rcases h with h | ⟨_, _, _, _, e, _⟩
  · cases h; rfl
  · cases e
theorem RepT.bl {b : Bool} (h : RepT mg N c H u (.bl b)) : u = .bl b := by
  rcases h with h | ⟨_, _, _, _, e, _⟩
  · cases h; rfl
  · cases e
theorem RepT.int {i : Int} (h : RepT mg N c H u (.int i)) : u = .int i := by
  rcases h with h | ⟨_, _, _, _, e, _⟩
  · cases h; rfl
  · cases e
theorem RepT.str {z : Str} (h : RepT mg N c H u (.str z)) : u = .str z := by
  rcases h with h | ⟨_, _, _, _, e, _⟩
  · cases h; rfl
  · cases e
theorem RepT.ty {n : String} (h : RepT mg N c H u (.ty n)) : u = .ty n := by
  rcases h with h | ⟨_, _, _, _, e, _⟩
  · cases h; rfl
  · cases e
theorem RepT.tup {xs : List D} (h : RepT mg N c H u (.tup xs)) : ∃ a vs, u = .ref a ∧ H a = some (.tup vs) ∧ RepL mg N c H vs xs := by
  rcases h with h | ⟨_, _, _, _, e, _⟩
  · cases h with
    | tup h r => exact ⟨_, _, rfl, h, r⟩
  · cases e
theorem RepT.lst {xs : List D} (W : Wd mg N c H st) (h : RepT mg N c H u x) (e : lstM st x = some xs) : ∃ a vs, u = .ref a ∧ H a = some (.lst vs) ∧ RepL mg N c H vs xs := by
  rcases h with h | ⟨a, vs, ys, rfl, rfl, ha, _, r⟩
  · cases h with
    | lst h n r => cases e; exact ⟨_, _, rfl, h, r⟩
    | cell hc =>
      obtain ⟨vs, ha, r⟩ := W.lstC hc e
      exact ⟨_, _, rfl, ha, r⟩
    | _ => cases e
  · cases e
    exact ⟨a, vs, rfl, ha, r⟩
theorem RepT.read {xs : List D} (W : Wd mg N c H st) (h : RepT mg N c H u x) (e : lstR st x = some xs) : ∃ a vs, u = .ref a ∧ SqL mg.K H a vs ∧ RepL mg N c H vs xs := by
  by_cases hf : ∃ ys, x = .fro ys
  · obtain ⟨ys, rfl⟩ := hf
    cases e
    rcases h with h | ⟨_, _, _, _, e, _⟩
    · cases h with
      | fro h n r => exact ⟨_, _, rfl, .inl (.inr ⟨_, h⟩), r⟩
      | kro h => exact ⟨_, _, rfl, h H, RepL.ints _⟩
    · cases e
  · have e2 : lstM st x = some xs := by
      cases x <;> first | exact e | exact absurd ⟨_, rfl⟩ hf
    obtain ⟨a, vs, e1, ha, r⟩ := RepT.lst W h e2
    exact ⟨a, vs, e1, SqL.of ha, r⟩
theorem Rep.isNon {d : D} {v : V} (h : Rep mg N c H v d) : (v = .non) ↔ (d = .non) := by
  constructor
  · intro e; subst e; cases h; rfl
  · intro e; subst e; cases h; rfl
theorem RepT.isNon {d : D} {v : V} (h : RepT mg N c H v d) : (v = .non) ↔ (d = .non) := by
  rcases h with h | ⟨_, _, _, e1, e2, _⟩
  · exact h.isNon
  · rw [e1, e2]; exact ⟨(fun z => nomatch z), (fun z => nomatch z)⟩
end

/-! ### two operands -/
def eOp {α : Type} (op : D → D → Sto → Option α) (a b : SE) : Fx α := fun env st => match a env st with
  | none => none
  | some (x, s1) => match b env s1 with
    | none => none
    | some (y, s2) => match op x y s2 with
      | none => none
      | some d => some (d, s2)
def OpOk {α : Type} (mg : Glob) (R : Told α) (r : R2) (op : D → D → Sto → Option α) : Prop := ∀ (N : Prot) (c : List Addr) (H : Hp) (st : Sto) (u v : V) (x y : D) (d : α) (Q : VK), Wd mg N c H st → RepT mg N c H u x → RepT mg N c H v y → op x y st = some d →
  (∀ w N' c' H', Ex N c H N' c' H' → Wd mg N' c' H' st → R N c H N' c' H' w d → Q w H') → r u v H Q
def orO {α : Type} (f g : D → D → Sto → Option α) : D → D → Sto → Option α := fun x y st => match f x y st with
  | some d => some d
  | none => g x y st
def asL (f : D → D → Sto → Option (List D)) : D → D → Sto → Option D := fun x y st => match f x y st with
  | some xs => some (.lst xs)
  | none => none
section
variable {α : Type} {mg : Glob} {R : Told α} {r r' : R2} {op op' : D → D → Sto → Option α} {fa fb : SE} {X : Cx} {a b : Expr} {pos : Pos}
theorem r_op (hk : OpOk mg R r op) (hb : Back mg R) {σ : L2.St} {H : Hp} {Q : VK} (h : tX mg R (eOp op fa fb) σ H Q) : tOp r (tP mg fa) (tP mg fb) σ H Q := by
  obtain ⟨E, N, c, env, st, d, st', R0, q, k⟩ := h
  unfold eOp at q
  split at q
  · cases q
  · rename_i x s1 q1
    split at q
    · cases q
    · rename_i y s2 q2
      split at q
      · cases q
      · rename_i d0 q3
        cases q
        refine ⟨E, N, c, env, st, x, s1, R0, q1, fun v1 N1 c1 H1 x1 W1 p1 => ?_⟩
        refine ⟨E, N1, c1, env, s1, y, _, R0.ex x1 W1, q2, fun v2 N2 c2 H2 x2 W2 p2 => ?_⟩
        have x12 := x1.trans x2 R0.wd
        refine hk N2 c2 H2 _ v1 v2 x y _ Q W2 (RepT.ex x2 W1 p1) p2 q3 fun w N' c' H' x3 W3 p3 => ?_
        exact k w N' c' H' (x12.trans x3 R0.wd) W3 (hb R0.wd x12 W2 p3)
theorem OpOk.or (h : OpOk mg R r op) (h' : OpOk mg R r' op') : OpOk mg R (fun x y H Q => r x y H Q ∨ r' x y H Q) (orO op op') := by
  intro N c H st u v x y d Q W p1 p2 e k
  unfold orO at e
  split at e
  · rename_i d0 e0
    cases e
    exact .inl (h N c H st u v x y _ Q W p1 p2 e0 k)
  · exact .inr (h' N c H st u v x y d Q W p1 p2 e k)
theorem d_bin {o : Operator} (ho : OpR X (binaryOp o) r) (hk : OpOk mg R r op) (hb : Back mg R) (ha : PE X a (tP mg fa)) (hb' : PE X b (tP mg fb)) : PE X (.BinOp a o b pos) (tX mg R (eOp op fa fb)) :=
  pe_weak (pe_op ho ha hb') fun _ _ _ h => r_op hk hb h
theorem d_cmp {o : CmpOp} (ho : OpR X (compareOp o) r) (hk : OpOk mg R r op) (hb : Back mg R) (ha : PE X a (tP mg fa)) (hb' : PE X b (tP mg fb)) (hm : behindInMarks o b = false) : PE X (.Compare a [o] [b] pos) (tX mg R (eOp op fa fb)) :=
  pe_weak (pe_cmpR ho ha hb' hm) fun _ _ _ h => r_op hk hb h
end

/-! ### whole numbers -/
def iOp (C : Int → Int → Bool) (g : Int → Int → D) : D → D → Sto → Option D := fun x y _ => match x, y with
  | .int i, .int j => if C i j = true then some (g i j) else none
  | _, _ => none
theorem ok_I {mg : Glob} {C : Int → Int → Bool} {P : Int → Int → Prop} {g : Int → Int → D} {gv : Int → Int → V} (hC : ∀ i j, C i j = true → P i j) (hg : ∀ i j N c H, Rep mg N c H (gv i j) (g i j)) : OpOk mg (RE mg) (rI P gv) (iOp C g) := by
  intro N c H st u v x y d Q W p1 p2 e k
  unfold iOp at e
  split at e
  · rename_i i j
    split at e
    · rename_i hc
      cases e
      exact ⟨i, j, p1.int, p2.int, hC i j hc, k _ N c H Ex.refl W (hg i j N c H)⟩
    · cases e
  · cases e
theorem ok_I0 {mg : Glob} {g : Int → Int → D} {gv : Int → Int → V} (hg : ∀ i j N c H, Rep mg N c H (gv i j) (g i j)) : OpOk mg (RE mg) (rI0 gv) (iOp (fun _ _ => true) g) := by
  intro N c H st u v x y d Q W p1 p2 e k
  unfold iOp at e
  split at e
  · rename_i i j
    split at e
    · cases e
      exact ⟨i, j, p1.int, p2.int, k _ N c H Ex.refl W (hg i j N c H)⟩
    · cases e
  · cases e
def mulC (i j : Int) : Bool := (decide (-(2 ^ 64) < i) && decide (i < 2 ^ 64)) || (decide (-(2 ^ 64) < j) && decide (j < 2 ^ 64)) || decide ((Builtin.Int.intBits i : Int) + (Builtin.Int.intBits j : Int) ≤ 134217728)
def divC (_ j : Int) : Bool := decide (0 < j) && decide (j.natAbs.log2 < 9000)
def modC (_ j : Int) : Bool := decide (0 < j)
def powC (i j : Int) : Bool := decide (0 ≤ j) && decide ((Builtin.Int.intBits i : Int) * j ≤ 134217728)
theorem mulC_ok {i j : Int} (h : mulC i j = true) : IntMulOk i j := by
  unfold mulC at h
  rw [Bool.or_eq_true, Bool.or_eq_true, Bool.and_eq_true, Bool.and_eq_true] at h
  rcases h with (h | h) | h
  · exact CMul.ok (.inl ⟨of_decide_eq_true h.1, of_decide_eq_true h.2⟩)
  · exact CMul.ok (.inr ⟨of_decide_eq_true h.1, of_decide_eq_true h.2⟩)
  · exact CMulX.ok (show (Builtin.Int.intBits i : Int) + (Builtin.Int.intBits j : Int) ≤ 134217728 from of_decide_eq_true h)
theorem divC_ok {i j : Int} (h : divC i j = true) : CDivW i j := by
  unfold divC at h
  rw [Bool.and_eq_true] at h
  exact ⟨of_decide_eq_true h.1, of_decide_eq_true h.2⟩
section
variable {X : Cx} {mg : Glob}
theorem op_mulA : OpR X (binaryOp .Mult) (rI (fun i j => mulC i j = true) fun i j => .int (i * j)) := opI fun _ _ _ _ _ _ _ hc q => mul_int q (mulC_ok hc)
theorem op_powA : OpR X (binaryOp .Pow) (rI (fun i j => powC i j = true) fun i j => .int (i ^ j.toNat)) := opI fun i j _ _ _ _ _ hc q => by
  have hc : powC i j = true := hc
  unfold powC at hc
  rw [Bool.and_eq_true] at hc
  exact pow_int (of_decide_eq_true hc.1) (of_decide_eq_true hc.2) q
end
abbrev oSub := iOp (fun _ _ => true) fun i j => .int (i - j)
abbrev oMul := iOp mulC fun i j => .int (i * j)
abbrev oDiv := iOp divC fun i j => .int (i / j)
abbrev oMod := iOp modC fun i j => .int (i % j)
abbrev oPow := iOp powC fun i j => .int (i ^ j.toNat)
abbrev oLt := iOp (fun _ _ => true) fun i j => .bl (decide (i < j))
abbrev oLe := iOp (fun _ _ => true) fun i j => .bl (decide (i ≤ j))
abbrev oGt := iOp (fun _ _ => true) fun i j => .bl (decide (j < i))
abbrev oGe := iOp (fun _ _ => true) fun i j => .bl (decide (j ≤ i))
section
variable {X : Cx} {mg : Glob} {a b : Expr} {pos : Pos} {fa fb : SE}
theorem d_sub (ha : PE X a (tP mg fa)) (hb : PE X b (tP mg fb)) : PE X (.BinOp a .Sub b pos) (tE mg (eOp oSub fa fb)) := d_bin op_sub (ok_I0 fun i j _ _ _ => .int (i - j)) back_E ha hb
theorem d_mul (ha : PE X a (tP mg fa)) (hb : PE X b (tP mg fb)) : PE X (.BinOp a .Mult b pos) (tE mg (eOp oMul fa fb)) := d_bin op_mulA (ok_I (fun _ _ h => h) fun i j _ _ _ => .int (i * j)) back_E ha hb
theorem d_div (ha : PE X a (tP mg fa)) (hb : PE X b (tP mg fb)) : PE X (.BinOp a .FloorDiv b pos) (tE mg (eOp oDiv fa fb)) := d_bin op_fdivW (ok_I (fun _ _ h => divC_ok h) fun i j _ _ _ => .int (i / j)) back_E ha hb
theorem d_mod (ha : PE X a (tP mg fa)) (hb : PE X b (tP mg fb)) : PE X (.BinOp a .Mod b pos) (tE mg (eOp oMod fa fb)) := d_bin op_mod (ok_I (fun _ _ h => of_decide_eq_true h) fun i j _ _ _ => .int (i % j)) back_E ha hb
theorem d_pow (ha : PE X a (tP mg fa)) (hb : PE X b (tP mg fb)) : PE X (.BinOp a .Pow b pos) (tE mg (eOp oPow fa fb)) := d_bin op_powA (ok_I (fun _ _ h => h) fun i j _ _ _ => .int _) back_E ha hb
theorem d_lt (ha : PE X a (tP mg fa)) (hb : PE X b (tP mg fb)) : PE X (.Compare a [.Lt] [b] pos) (tE mg (eOp oLt fa fb)) := d_cmp op_lt (ok_I0 fun i j _ _ _ => .bl _) back_E ha hb (nomark _)
theorem d_gt (ha : PE X a (tP mg fa)) (hb : PE X b (tP mg fb)) : PE X (.Compare a [.Gt] [b] pos) (tE mg (eOp oGt fa fb)) := d_cmp op_gt (ok_I0 fun i j _ _ _ => .bl _) back_E ha hb (nomark _)
end

/-! ### adding -/
def oCat : D → D → Sto → Option (List D) := fun x y st => match lstM st x, lstM st y with
  | some xs, some ys => if xs.length + ys.length ≤ 1000000 then some (xs ++ ys) else none
  | _, _ => none
def oCatS : D → D → Sto → Option D := fun x y _ => match x, y with
  | .str s, .str t => if s.length + t.length ≤ 1000000 then some (.str (s ++ t)) else none
  | _, _ => none
def oCatT : D → D → Sto → Option D := fun x y _ => match x, y with
  | .tup xs, .tup ys => if xs.length + ys.length ≤ 1000000 then some (.tup (xs ++ ys)) else none
  | _, _ => none
theorem sz6 {n : Nat} (h : n ≤ 1000000) : n ≤ sizeLine := Nat.le_trans h (by decide)
section
variable {mg : Glob}
theorem RN.laid {N : Prot} {c : List Addr} {H : Hp} {st : Sto} {vs : List V} {xs : List D} {p : Addr} (W : Wd mg N c H st) (hp : H p = none) (r : RepL mg N c H vs xs) : RN mg N c H (fun a => N a ∨ a = p) c (upd H p (.lst vs)) (.ref p) xs :=
  ⟨p, vs, rfl, hp, .inr rfl, W.cnone hp, upd_same, r.tr ((Ex.laidN W hp).tr W)⟩
theorem Rep.laidT {N : Prot} {c : List Addr} {H : Hp} {st : Sto} {vs : List V} {xs : List D} {p : Addr} (W : Wd mg N c H st) (hp : H p = none) (r : RepL mg N c H vs xs) : Rep mg N c (upd H p (.tup vs)) (.ref p) (.tup xs) :=
  .tup upd_same (r.tr ((Ex.laid W hp).tr W))
theorem ok_cat : OpOk mg (RN mg) rCat oCat := by
  intro N c H st u v x y d Q W p1 p2 e k
  unfold oCat at e
  split at e
  · rename_i xs ys e1 e2
    split at e
    · rename_i hl
      cases e
      obtain ⟨a, vs, rfl, ha, r1⟩ := RepT.lst W p1 e1
      obtain ⟨b, us, rfl, hb, r2⟩ := RepT.lst W p2 e2
      refine ⟨a, b, vs, us, rfl, rfl, ha, hb, sz6 (by rw [r1.length, r2.length]; exact hl), fun p hp => ?_⟩
      exact k _ _ _ _ (Ex.laidN W hp) (W.laidN hp) (RN.laid W hp (r1.append r2))
    · cases e
  · cases e
theorem OpOk.give {r : R2} {op : D → D → Sto → Option (List D)} (h : OpOk mg (RN mg) r op) : OpOk mg (RE mg) r (asL op) := by
  intro N c H st u v x y d Q W p1 p2 e k
  unfold asL at e
  split at e
  · rename_i xs e0
    cases e
    refine h N c H st u v x y xs Q W p1 p2 e0 fun w N' c' H' x W' r => ?_
    obtain ⟨N'', x2, W2, r2⟩ := r.give W x W'
    exact k w N'' c' H' x2 W2 r2
  · cases e
theorem ok_catS : OpOk mg (RE mg) (fun x y H Q => ∃ i j, x = .str i ∧ y = .str j ∧ i.length + j.length ≤ sizeLine ∧ Q (.str (i ++ j)) H) oCatS := by
  intro N c H st u v x y d Q W p1 p2 e k
  unfold oCatS at e
  split at e
  · rename_i i j
    split at e
    · rename_i hl
      cases e
      exact ⟨i, j, p1.str, p2.str, sz6 hl, k _ N c H Ex.refl W (.str _)⟩
    · cases e
  · cases e
theorem ok_catT {K : PySem.W.Frag} : OpOk mg (RP mg) (rCatA K) oCatT := by
  intro N c H st u v x y d Q W p1 p2 e k
  unfold oCatT at e
  split at e
  · rename_i xs ys
    split at e
    · rename_i hl
      cases e
      obtain ⟨a, vs, rfl, ha, r1⟩ := p1.tup
      obtain ⟨b, us, rfl, hb, r2⟩ := p2.tup
      have l1 := r1.length
      have l2 := r2.length
      refine ⟨a, b, vs, us, rfl, rfl, SqT.of ha, SqT.of hb, sz6 (by omega), fun e0 => ?_, fun n1 e0 => ?_, fun n1 n2 p hp => ?_⟩
      · subst e0
        cases r1
        exact k _ N c H Ex.refl W p2
      · subst e0
        cases r2
        rw [List.append_nil] at k
        exact k _ N c H Ex.refl W p1
      · exact k _ _ _ _ (Ex.laid W hp) (W.laid hp) (.inl (Rep.laidT W hp (r1.append r2)))
    · cases e
  · cases e
theorem ok_catT' {K : PySem.W.Frag} : OpOk mg (RE mg) (rCatA K) oCatT := by
  intro N c H st u v x y d Q W p1 p2 e k
  refine ok_catT N c H st u v x y d Q W p1 p2 e fun w N' c' H' x W' r => k w N' c' H' x W' ?_
  have : ∃ zs, d = .tup zs := by
    unfold oCatT at e
    split at e
    · split at e
      · cases e; exact ⟨_, rfl⟩
      · cases e
    · cases e
  obtain ⟨zs, rfl⟩ := this
  rcases r with r | ⟨_, _, _, _, e, _⟩
  · exact r
  · cases e
end
/-- x + y as data: ints, texts, lists, tuples -/
abbrev oAdd : D → D → Sto → Option D := orO (iOp (fun _ _ => true) fun i j => .int (i + j)) (orO oCatS (orO (asL oCat) oCatT))
section
variable {X : Cx} {mg : Glob} {a b : Expr} {pos : Pos} {fa fb : SE}
theorem d_add (ha : PE X a (tP mg fa)) (hb : PE X b (tP mg fb)) : PE X (.BinOp a .Add b pos) (tE mg (eOp oAdd fa fb)) :=
  d_bin (OpR.or op_add (OpR.or op_add_str (OpR.or op_cat op_catA))) (OpOk.or (ok_I0 fun i j _ _ _ => .int (i + j)) (OpOk.or ok_catS (OpOk.or ok_cat.give ok_catT'))) back_E ha hb
end
end LW

/-! LwC: equality, is None, in; tests, and, or, not, if; argument lists, displays; subscripts, slices. -/
namespace LW
open PySem L2 PyProof.Rows

/-! ### equality of data -/
def mapO {α β : Type} (f : α → Option β) : List α → Option (List β)
  | [] => some []
  | x :: r => match f x with
    | none => none
    | some y => match mapO f r with
      | none => none
      | some ys => some (y :: ys)
/-- data as the library's data: no instances, no dicts; n: how deep -/
def toPy : Nat → Sto → D → Option PyData
  | 0, _, _ => none
  | n + 1, st, d => match d with
    | .non => some .none
    | .bl b => some (.bool b)
    | .int i => some (.int i)
    | .str x => if PyData.strOk x = true then some (.str x) else none
    | .tup xs => match mapO (toPy n st) xs with
      | some ps => some (.tuple ps)
      | none => none
    | .lst xs => match mapO (toPy n st) xs with
      | some ps => some (.list ps)
      | none => none
    | .fro xs => match mapO (toPy n st) xs with
      | some ps => some (.list ps)
      | none => none
    | .cell k => match lcG st k with
      | none => none
      | some xs => match mapO (toPy n st) xs with
        | some ps => some (.list ps)
        | none => none
    | _ => none
theorem depthAll_le {n : Nat} {f : D → Option PyData} (h : ∀ x p, f x = some p → p.depth ≤ n ∧ p.canLay0 = true) : ∀ (xs : List D) (ps : List PyData), mapO f xs = some ps → PyData.depthAll ps ≤ n ∧ PyData.canLayAll0 ps = true
  | [], ps, e => by
    cases e
    exact ⟨Nat.zero_le _, rfl⟩
  | x :: r, ps, e => by
    unfold mapO at e
    split at e
    · cases e
    · rename_i y hy
      split at e
      · cases e
      · rename_i ys hys
        cases e
        obtain ⟨h1, h2⟩ := h x y hy
        obtain ⟨h3, h4⟩ := depthAll_le h r ys hys
        refine ⟨?_, ?_⟩
        · show max y.depth (PyData.depthAll ys) ≤ n
          omega
        · show (y.canLay0 && PyData.canLayAll0 ys) = true
          rw [h2, h4]; rfl
theorem toPy_ok : ∀ (n : Nat) (st : Sto) (d : D) (p : PyData), toPy n st d = some p → p.depth ≤ n ∧ p.canLay0 = true := by
  intro n
  induction n with
  | zero => intro st d p e; cases e
  | succ n ih =>
    intro st d p e
    have hL := @depthAll_le n (toPy n st) (fun x p h => ih st x p h)
    unfold toPy at e
    split at e
    · cases e; exact ⟨Nat.zero_le _, rfl⟩
    · cases e; exact ⟨Nat.zero_le _, rfl⟩
    · cases e; exact ⟨Nat.zero_le _, rfl⟩
    · split at e
      · rename_i hs
        cases e; exact ⟨Nat.zero_le _, hs⟩
      · cases e
    · split at e
      · rename_i xs ps hp
        cases e
        obtain ⟨h1, h2⟩ := hL _ ps hp
        exact ⟨Nat.succ_le_succ h1, h2⟩
      · cases e
    · split at e
      · rename_i xs ps hp
        cases e
        obtain ⟨h1, h2⟩ := hL _ ps hp
        exact ⟨Nat.succ_le_succ h1, h2⟩
      · cases e
    · split at e
      · rename_i xs ps hp
        cases e
        obtain ⟨h1, h2⟩ := hL _ ps hp
        exact ⟨Nat.succ_le_succ h1, h2⟩
      · cases e
    · split at e
      · cases e
      · split at e
        · rename_i xs hx ps hp
          cases e
          obtain ⟨h1, h2⟩ := hL _ ps hp
          exact ⟨Nat.succ_le_succ h1, h2⟩
        · cases e
    · cases e
theorem toPy_shaped {st : Sto} {d : D} {p : PyData} (h : toPy 60 st d = some p) : SeqAt.shaped p = true := by
  obtain ⟨h1, h2⟩ := toPy_ok 60 st d p h
  unfold SeqAt.shaped
  rw [h2, decide_eq_true (show p.depth ≤ 64 by omega)]
  rfl
section
variable {mg : Glob} {N : Prot} {c : List Addr} {H : Hp} {st : Sto}
theorem dp_all {n : Nat} (h : ∀ (d : D) (v : V) (p : PyData), Rep mg N c H v d → toPy n st d = some p → Dp mg.K H v p) : ∀ (xs : List D) (vs : List V) (ps : List PyData), RepL mg N c H vs xs → mapO (toPy n st) xs = some ps → DpAll mg.K H vs ps
  | [], _, ps, .nil, e => by cases e; exact .nil
  | x :: r, _, ps, .cons hv t, e => by
    unfold mapO at e
    split at e
    · cases e
    · rename_i y hy
      split at e
      · cases e
      · rename_i ys hys
        cases e
        exact .cons (h _ _ _ hv hy) (dp_all h r _ ys t hys)
theorem dp_of (W : Wd mg N c H st) : ∀ (n : Nat) (d : D) (v : V) (p : PyData), Rep mg N c H v d → toPy n st d = some p → Dp mg.K H v p := by
  intro n
  induction n with
  | zero => intro d v p _ e; cases e
  | succ n ih =>
    intro d v p h e
    unfold toPy at e
    split at e
    · cases e; cases h; exact .non
    · cases e; cases h; exact .bl _
    · cases e; cases h; exact .int _
    · split at e
      · cases e; cases h; exact .str _
      · cases e
    · split at e
      · rename_i ps hp
        cases e
        cases h with
        | tup ha r => exact .tup (SqT.of ha) (dp_all ih _ _ _ r hp)
      · cases e
    · split at e
      · rename_i ps hp
        cases e
        cases h with
        | lst ha _ r => exact .lst (SqL.of ha) (dp_all ih _ _ _ r hp)
      · cases e
    · split at e
      · rename_i ps hp
        cases e
        cases h with
        | fro ha _ r => exact .lst (.inl (.inr ⟨_, ha⟩)) (dp_all ih _ _ _ r hp)
        | kro hq => exact .lst (hq H) (dp_all ih _ _ _ (RepL.ints _) hp)
      · cases e
    · split at e
      · cases e
      · rename_i xs hx
        split at e
        · rename_i ps hp
          cases e
          cases h with
          | cell hc =>
            obtain ⟨vs, ha, r⟩ := W.lstC hc hx
            exact .lst (SqL.of ha) (dp_all ih _ _ _ r hp)
        · cases e
    · cases e
theorem dp_T (W : Wd mg N c H st) {d : D} {v : V} {p : PyData} (h : RepT mg N c H v d) (e : toPy 60 st d = some p) : Dp mg.K H v p := by
  rcases h with h | ⟨a, vs, xs, rfl, rfl, ha, _, r⟩
  · exact dp_of W 60 d v p h e
  · unfold toPy at e
    dsimp only at e
    split at e
    · rename_i ps hp
      cases e
      exact .lst (SqL.of ha) (dp_all (dp_of W 59) _ _ _ r hp)
    · cases e
end
def oEq : D → D → Sto → Option D := fun x y st => match toPy 60 st x, toPy 60 st y with
  | some p, some q => some (.bl (PyData.eqv p q))
  | _, _ => none
def oNe : D → D → Sto → Option D := fun x y st => match toPy 60 st x, toPy 60 st y with
  | some p, some q => some (.bl (!PyData.eqv p q))
  | _, _ => none
theorem ok_eq {mg : Glob} : OpOk mg (RE mg) (rEqD mg.K) oEq := by
  intro N c H st u v x y d Q W p1 p2 e k
  unfold oEq at e
  split at e
  · rename_i p q e1 e2
    cases e
    exact ⟨p, q, dp_T W p1 e1, dp_T W p2 e2, toPy_shaped e1, toPy_shaped e2, k _ N c H Ex.refl W (.bl _)⟩
  · cases e
theorem ok_ne {mg : Glob} : OpOk mg (RE mg) (rNeD mg.K) oNe := by
  intro N c H st u v x y d Q W p1 p2 e k
  unfold oNe at e
  split at e
  · rename_i p q e1 e2
    cases e
    exact ⟨p, q, dp_T W p1 e1, dp_T W p2 e2, toPy_shaped e1, toPy_shaped e2, k _ N c H Ex.refl W (.bl _)⟩
  · cases e
/-- is None, is not None -/
def isNonD : D → Bool
  | .non => true
  | _ => false
theorem isNonD_iff {d : D} : isNonD d = true ↔ d = .non := by
  cases d <;> simp [isNonD]
def oIsN : D → D → Sto → Option D := fun x y _ => match y with
  | .non => some (.bl (isNonD x))
  | _ => none
def oNotN : D → D → Sto → Option D := fun x y _ => match y with
  | .non => some (.bl (!isNonD x))
  | _ => none
theorem isN_eq {mg : Glob} {N : Prot} {c : List Addr} {H : Hp} {u : V} {x : D} (h : RepT mg N c H u x) : decide (u = .non) = isNonD x := by
  cases e : isNonD x with
  | true => exact decide_eq_true (h.isNon.mpr (isNonD_iff.mp e))
  | false =>
    refine decide_eq_false fun z => ?_
    have q := isNonD_iff.mpr (h.isNon.mp z)
    rw [e] at q; cases q
theorem ok_isN {mg : Glob} : OpOk mg (RE mg) (fun x y H Q => y = .non ∧ Q (.bl (decide (x = .non))) H) oIsN := by
  intro N c H st u v x y d Q W p1 p2 e k
  unfold oIsN at e
  split at e
  · cases e
    refine ⟨p2.non, ?_⟩
    rw [isN_eq p1]
    exact k _ N c H Ex.refl W (.bl _)
  · cases e
section
variable {X : Cx} {mg : Glob} {a b : Expr} {pos : Pos} {fa fb : SE}
theorem d_eq (hu : X.A.units + 64 < cLine) (ha : PE X a (tP mg fa)) (hb : PE X b (tP mg fb)) (hK : X.K = mg.K := by rfl) : PE X (.Compare a [.Eq] [b] pos) (tE mg (eOp oEq fa fb)) := d_cmp (hK ▸ op_eqD hu) ok_eq back_E ha hb (nomark _)
theorem d_ne (hu : X.A.units + 64 < cLine) (ha : PE X a (tP mg fa)) (hb : PE X b (tP mg fb)) (hK : X.K = mg.K := by rfl) : PE X (.Compare a [.NotEq] [b] pos) (tE mg (eOp oNe fa fb)) := d_cmp (hK ▸ op_neD hu) ok_ne back_E ha hb (nomark _)
theorem d_isN (ha : PE X a (tP mg fa)) (hb : PE X b (tP mg fb)) : PE X (.Compare a [.Is] [b] pos) (tE mg (eOp oIsN fa fb)) := d_cmp op_isN ok_isN back_E ha hb (nomark _)
end

/-! ### tests -/
abbrev SB := Fx Bool
def tT (mg : Glob) (f : SB) : TT := fun σ H Q => ∃ (E : En) (N : Prot) (c : List Addr) (env : Env) (st : Sto) (b : Bool) (st' : Sto), Rel mg E N c env st σ H ∧ f env st = some (b, st') ∧
  ∀ N' c' H', Ex N c H N' c' H' → Wd mg N' c' H' st' → Q b H'
def bOf (f : SE) : SB := fun env st => match f env st with
  | some (.bl b, s1) => some (b, s1)
  | _ => none
def bAnd (f g : SB) : SB := fun env st => match f env st with
  | none => none
  | some (true, s1) => g env s1
  | some (false, s1) => some (false, s1)
def bOr (f g : SB) : SB := fun env st => match f env st with
  | none => none
  | some (true, s1) => some (true, s1)
  | some (false, s1) => g env s1
def bNot (f : SB) : SB := fun env st => match f env st with
  | none => none
  | some (b, s1) => some (!b, s1)
section
variable {X : Cx} {mg : Glob} {e a b : Expr} {rest : List Expr} {pos : Pos} {fe fa fb : SE} {ta tb tc : SB}
theorem r_bOf {σ : L2.St} {H : Hp} {Q : Bool → Hp → Prop} (h : tT mg (bOf fe) σ H Q) : tB (tP mg fe) σ H Q := by
  obtain ⟨E, N, c, env, st, d, st', R, q, k⟩ := h
  unfold bOf at q
  split at q
  · rename_i b s1 q1
    cases q
    exact ⟨E, N, c, env, st, _, _, R, q1, fun v N' c' H' x W r => ⟨_, r.bl, k N' c' H' x W⟩⟩
  · cases q
theorem d_test (h : PE X e (tP mg fe)) (he : ∀ whole, isTrue e X.env whole = (do let v ← whole; standAt e.pos; holding [v] (truthy v)) := by intro _; rfl) : PT X e (tT mg (bOf fe)) := pt_weak (pt_val h he) fun _ _ _ q => r_bOf q
theorem pw_weak {t t' : TT} (h : PW X e t) (w : ∀ σ H Q, t' σ H Q → t σ H Q) : PW X e t' := ⟨fun wh pins s σ H Q I q => h.run wh pins s σ H Q I (w σ H Q q)⟩
theorem r_and {σ : L2.St} {H : Hp} {Q : Bool → Hp → Prop} (h : tT mg (bAnd ta tb) σ H Q) : tAnd (tT mg ta) (tT mg tb) σ H Q := by
  obtain ⟨E, N, c, env, st, d, st', R, q, k⟩ := h
  unfold bAnd at q
  split at q
  · cases q
  · rename_i s1 q1
    refine ⟨E, N, c, env, st, true, s1, R, q1, fun N1 c1 H1 x1 W1 => iteT ?_⟩
    exact ⟨E, N1, c1, env, s1, d, st', R.ex x1 W1, q, fun N2 c2 H2 x2 W2 => k N2 c2 H2 (x1.trans x2 R.wd) W2⟩
  · rename_i s1 q1
    cases q
    exact ⟨E, N, c, env, st, false, _, R, q1, fun N1 c1 H1 x1 W1 => iteF (k N1 c1 H1 x1 W1)⟩
theorem r_or {σ : L2.St} {H : Hp} {Q : Bool → Hp → Prop} (h : tT mg (bOr ta tb) σ H Q) : tOr (tT mg ta) (tT mg tb) σ H Q := by
  obtain ⟨E, N, c, env, st, d, st', R, q, k⟩ := h
  unfold bOr at q
  split at q
  · cases q
  · rename_i s1 q1
    cases q
    exact ⟨E, N, c, env, st, true, _, R, q1, fun N1 c1 H1 x1 W1 => iteT (k N1 c1 H1 x1 W1)⟩
  · rename_i s1 q1
    refine ⟨E, N, c, env, st, false, s1, R, q1, fun N1 c1 H1 x1 W1 => iteF ?_⟩
    exact ⟨E, N1, c1, env, s1, d, st', R.ex x1 W1, q, fun N2 c2 H2 x2 W2 => k N2 c2 H2 (x1.trans x2 R.wd) W2⟩
theorem r_not {σ : L2.St} {H : Hp} {Q : Bool → Hp → Prop} (h : tT mg (bNot ta) σ H Q) : tNot (tT mg ta) σ H Q := by
  obtain ⟨E, N, c, env, st, d, st', R, q, k⟩ := h
  unfold bNot at q
  split at q
  · cases q
  · rename_i b s1 q1
    cases q
    exact ⟨E, N, c, env, st, b, _, R, q1, k⟩
theorem w_and1 (ha : PT X a (tT mg ta)) : PW X (.BoolOp .And [a] pos) (tT mg ta) := pw_and1 ha
theorem w_or1 (ha : PT X a (tT mg ta)) : PW X (.BoolOp .Or [a] pos) (tT mg ta) := pw_or1 ha
theorem w_and (ha : PT X a (tT mg ta)) (hb : PW X (.BoolOp .And (b :: rest) pos) (tT mg tb)) : PW X (.BoolOp .And (a :: b :: rest) pos) (tT mg (bAnd ta tb)) := pw_weak (pw_and ha hb) fun _ _ _ q => r_and q
theorem w_or (ha : PT X a (tT mg ta)) (hb : PW X (.BoolOp .Or (b :: rest) pos) (tT mg tb)) : PW X (.BoolOp .Or (a :: b :: rest) pos) (tT mg (bOr ta tb)) := pw_weak (pw_or ha hb) fun _ _ _ q => r_or q
theorem w_pt (h : PW X e (tT mg ta)) : PT X e (tT mg ta) := h.pt
theorem d_not (ha : PT X a (tT mg ta)) : PT X (.UnaryOp .Not a pos) (tT mg (bNot ta)) := pt_weak (pt_not ha) fun _ _ _ q => r_not q
/-- a comparison as a test -/
theorem test_cmp {M : Model} {A : Around} {l r : Expr} {op : CmpOp} {pos : Pos} {env : PySem.Env} {whole : Sem Value} {Q : Bool → Shared → Prop} {E : Value → Shared → Prop} {s : Shared}
    (h : wpAny M A (eval (.Compare l [op] [r] pos) env) (fun c s₃ => wpAny M A (truthy c) Q E s₃) E s) : wpAny M A (isTrue (.Compare l [op] [r] pos) env whole) Q E s := fun Γ p hΓ => by
  have h := h Γ p hΓ
  simp only [eval_Compare1, isTrue_Compare1, Sem.wp_bind', Sem.wp_holding, Sem.wp_cmd_standAt, Sem.wp_operate] at h ⊢
  exact Sem.wp_mono M Γ _ (fun a p₁ s₁ h₁ => Sem.wp_mono M Γ _ (fun b _ s₂ h₂ => Sem.wp_mono M Γ _ (fun c p₃ s₃ h₃ => h₃ Γ p₃ hΓ)
    (fun _ _ _ h' => h') _ _ h₂) (fun _ _ _ h' => h') _ _ h₁) (fun _ _ _ h' => h') _ _ h
theorem d_testC {o : CmpOp} (h : PE X (.Compare a [o] [b] pos) (tP mg fe)) : PT X (.Compare a [o] [b] pos) (tT mg (bOf fe)) := by
  refine ⟨fun pins s σ H Q I q => ?_⟩
  refine test_cmp (thn (h.run pins s σ H _ I (r_bOf q)) fun c s3 ⟨z, H3, I3, r3, e3⟩ => ?_)
  obtain ⟨k, e, q3⟩ := e3
  subst e
  cases r3
  exact wpAny_truthy_bool ⟨H3, I3, q3⟩
end

/-! ### and, or, not as values of truth values; if; minus -/
def eAnd (f g : SE) : SE := fun env st => match f env st with
  | some (.bl true, s1) => g env s1
  | some (.bl false, s1) => some (.bl false, s1)
  | _ => none
def eOr (f g : SE) : SE := fun env st => match f env st with
  | some (.bl true, s1) => some (.bl true, s1)
  | some (.bl false, s1) => g env s1
  | _ => none
def eNot (f : SE) : SE := fun env st => match f env st with
  | some (.bl b, s1) => some (.bl (!b), s1)
  | _ => none
def eIf {α : Type} (t : SB) (f g : Fx α) : Fx α := fun env st => match t env st with
  | some (true, s1) => f env s1
  | some (false, s1) => g env s1
  | none => none
def eNeg (f : SE) : SE := fun env st => match f env st with
  | some (.int i, s1) => some (.int (-i), s1)
  | _ => none
section
variable {X : Cx} {mg : Glob} {e a b : Expr} {rest : List Expr} {pos : Pos} {fe fa fb : SE} {ta tb tc : SB}
theorem r_andV {σ : L2.St} {H : Hp} {Q : VK} (h : tE mg (eAnd fa fb) σ H Q) : tAndV (tP mg fa) (tE mg fb) σ H Q := by
  obtain ⟨E, N, c, env, st, d, st', R, q, k⟩ := h
  unfold eAnd at q
  split at q
  · rename_i s1 q1
    refine ⟨E, N, c, env, st, _, s1, R, q1, fun v N1 c1 H1 x1 W1 r1 => ⟨true, r1.bl, iteT ?_⟩⟩
    exact ⟨E, N1, c1, env, s1, d, st', R.ex x1 W1, q, fun v N2 c2 H2 x2 W2 r2 => k v N2 c2 H2 (x1.trans x2 R.wd) W2 r2⟩
  · rename_i s1 q1
    cases q
    exact ⟨E, N, c, env, st, _, _, R, q1, fun v N1 c1 H1 x1 W1 r1 => ⟨false, r1.bl, iteF (k _ N1 c1 H1 x1 W1 (.bl false))⟩⟩
  · cases q
theorem r_notV {σ : L2.St} {H : Hp} {Q : VK} (h : tE mg (eNot fa) σ H Q) : tNotV (tP mg fa) σ H Q := by
  obtain ⟨E, N, c, env, st, d, st', R, q, k⟩ := h
  unfold eNot at q
  split at q
  · rename_i b s1 q1
    cases q
    exact ⟨E, N, c, env, st, _, _, R, q1, fun v N1 c1 H1 x1 W1 r1 => ⟨b, r1.bl, k _ N1 c1 H1 x1 W1 (.bl _)⟩⟩
  · cases q
theorem r_if {α : Type} {Rt : Told α} (hb : Back mg Rt) {f g : Fx α} {σ : L2.St} {H : Hp} {Q : VK} (h : tX mg Rt (eIf ta f g) σ H Q) : tIf (tT mg ta) (tX mg Rt f) (tX mg Rt g) σ H Q := by
  obtain ⟨E, N, c, env, st, d, st', R, q, k⟩ := h
  unfold eIf at q
  split at q
  · rename_i s1 q1
    refine ⟨E, N, c, env, st, _, s1, R, q1, fun N1 c1 H1 x1 W1 => iteT ?_⟩
    exact ⟨E, N1, c1, env, s1, d, st', R.ex x1 W1, q, fun v N2 c2 H2 x2 W2 r2 => k v N2 c2 H2 (x1.trans x2 R.wd) W2 (hb R.wd x1 W1 r2)⟩
  · rename_i s1 q1
    refine ⟨E, N, c, env, st, _, s1, R, q1, fun N1 c1 H1 x1 W1 => iteF ?_⟩
    exact ⟨E, N1, c1, env, s1, d, st', R.ex x1 W1, q, fun v N2 c2 H2 x2 W2 r2 => k v N2 c2 H2 (x1.trans x2 R.wd) W2 (hb R.wd x1 W1 r2)⟩
  · cases q
theorem r_neg {σ : L2.St} {H : Hp} {Q : VK} (h : tE mg (eNeg fa) σ H Q) : tUn (rU fun i => .int (-i)) (tP mg fa) σ H Q := by
  obtain ⟨E, N, c, env, st, d, st', R, q, k⟩ := h
  unfold eNeg at q
  split at q
  · rename_i i s1 q1
    cases q
    exact ⟨E, N, c, env, st, _, _, R, q1, fun v N1 c1 H1 x1 W1 r1 => ⟨i, r1.int, k _ N1 c1 H1 x1 W1 (.int _)⟩⟩
  · cases q
theorem v_one {op : BoolOp} (ha : PE X a (tE mg fa)) : PE X (.BoolOp op [a] pos) (tE mg fa) := pe_one ha
theorem v_and (ha : PE X a (tP mg fa)) (hb : PE X (.BoolOp .And (b :: rest) pos) (tE mg fb)) : PE X (.BoolOp .And (a :: b :: rest) pos) (tE mg (eAnd fa fb)) := pe_weak (pe_and ha hb) fun _ _ _ q => r_andV q
theorem v_not (ha : PE X a (tP mg fa)) : PE X (.UnaryOp .Not a pos) (tE mg (eNot fa)) := pe_weak (pe_not ha) fun _ _ _ q => r_notV q
theorem d_if {c : Expr} (hc : PT X c (tT mg tc)) (ha : PE X a (tE mg fa)) (hb : PE X b (tE mg fb)) : PE X (.IfExp c a b pos) (tE mg (eIf tc fa fb)) := pe_weak (pe_ifExp hc ha hb) fun _ _ _ q => r_if (Rt := RE mg) back_E q
theorem d_neg (ha : PE X a (tP mg fa)) : PE X (.UnaryOp .USub a pos) (tE mg (eNeg fa)) := pe_weak (pe_un un_neg ha) fun _ _ _ q => r_neg q
end
end LW

/-! LwD: argument lists, displays, subscripts, slices, built-in calls, attributes. -/
namespace LW
open PySem L2 PyProof.Rows

/-! ### argument lists -/
inductive RepTL (mg : Glob) (N : Prot) (c : List Addr) (H : Hp) : List V → List D → Prop where
  | nil : RepTL mg N c H [] []
  | cons {v : V} {d : D} {vs : List V} {ds : List D} (h : RepT mg N c H v d) (t : RepTL mg N c H vs ds) : RepTL mg N c H (v :: vs) (d :: ds)
abbrev SA := Fx (List D)
abbrev ToldA := Prot → List Addr → Hp → List V → List D → Prop
def tAX (mg : Glob) (R : ToldA) (f : SA) : TA := fun σ H Q => ∃ (E : En) (N : Prot) (c : List Addr) (env : Env) (st : Sto) (d : List D) (st' : Sto), Rel mg E N c env st σ H ∧ f env st = some (d, st') ∧
  ∀ vs N' c' H', Ex N c H N' c' H' → Wd mg N' c' H' st' → R N' c' H' vs d → Q vs H'
abbrev tA (mg : Glob) (f : SA) : TA := tAX mg (RepL mg) f
abbrev tAP (mg : Glob) (f : SA) : TA := tAX mg (RepTL mg) f
def aNil : SA := fun _ st => some ([], st)
def aCons (f : SE) (g : SA) : SA := fun env st => match f env st with
  | none => none
  | some (d, s1) => match g env s1 with
    | none => none
    | some (ds, s2) => some (d :: ds, s2)
section
variable {mg : Glob} {X : Cx} {e : Expr} {es : List Expr} {f : SE} {g : SA}
theorem RepTL.ex {N N' : Prot} {c c' : List Addr} {H H' : Hp} {st : Sto} (x : Ex N c H N' c' H') (W : Wd mg N c H st) : ∀ {vs : List V} {ds : List D}, RepTL mg N c H vs ds → RepTL mg N' c' H' vs ds
  | _, _, .nil => .nil
  | _, _, .cons h t => .cons (RepT.ex x W h) (RepTL.ex x W t)
theorem RepL.toT {N : Prot} {c : List Addr} {H : Hp} : ∀ {vs : List V} {ds : List D}, RepL mg N c H vs ds → RepTL mg N c H vs ds
  | _, _, .nil => .nil
  | _, _, .cons h t => .cons (.inl h) (RepL.toT t)
theorem a_nil : PA X [] (tA mg aNil) := pa_weak pa_nil fun σ H Q ⟨E, N, c, env, st, d, st', R, q, k⟩ => by
  cases q
  exact k [] N c H Ex.refl R.wd .nil
theorem p_nil : PA X [] (tAP mg aNil) := pa_weak pa_nil fun σ H Q ⟨E, N, c, env, st, d, st', R, q, k⟩ => by
  cases q
  exact k [] N c H Ex.refl R.wd .nil
theorem a_cons (ha : PE X e (tE mg f)) (hr : PA X es (tA mg g)) (hs : starEach (e :: es) X.env = (false, eval e X.env) :: starEach es X.env := by rfl) : PA X (e :: es) (tA mg (aCons f g)) := pa_weak (pa_cons ha hr hs) fun σ H Q ⟨E, N, c, env, st, d, st', R, q, k⟩ => by
  unfold aCons at q
  split at q
  · cases q
  · rename_i d1 s1 q1
    split at q
    · cases q
    · rename_i ds s2 q2
      cases q
      refine ⟨E, N, c, env, st, d1, s1, R, q1, fun v N1 c1 H1 x1 W1 r1 => ?_⟩
      exact ⟨E, N1, c1, env, s1, ds, _, R.ex x1 W1, q2, fun vs N2 c2 H2 x2 W2 r2 => k _ N2 c2 H2 (x1.trans x2 R.wd) W2 (.cons (Rep.tr (x2.tr W1) r1) r2)⟩
theorem p_cons (ha : PE X e (tP mg f)) (hr : PA X es (tAP mg g)) (hs : starEach (e :: es) X.env = (false, eval e X.env) :: starEach es X.env := by rfl) : PA X (e :: es) (tAP mg (aCons f g)) := pa_weak (pa_cons ha hr hs) fun σ H Q ⟨E, N, c, env, st, d, st', R, q, k⟩ => by
  unfold aCons at q
  split at q
  · cases q
  · rename_i d1 s1 q1
    split at q
    · cases q
    · rename_i ds s2 q2
      cases q
      refine ⟨E, N, c, env, st, d1, s1, R, q1, fun v N1 c1 H1 x1 W1 r1 => ?_⟩
      exact ⟨E, N1, c1, env, s1, ds, _, R.ex x1 W1, q2, fun vs N2 c2 H2 x2 W2 r2 => k _ N2 c2 H2 (x1.trans x2 R.wd) W2 (.cons (RepT.ex x2 W1 r1) r2)⟩
end

/-! ### displays -/
def eTup (f : SA) : SE := fun env st => match f env st with
  | none => none
  | some (ds, s1) => if ds.length ≤ 1000000 then some (.tup ds, s1) else none
def lDisp (f : SA) : Fx (List D) := fun env st => match f env st with
  | none => none
  | some (ds, s1) => if ds.length ≤ 1000000 then some (ds, s1) else none
section
variable {mg : Glob} {X : Cx} {es : List Expr} {pos : Pos} {g : SA}
theorem d_tup {x1} (h : PA X es (tA mg g)) : PE X (.Tuple es x1 pos) (tE mg (eTup g)) := pe_weak (pe_tup h) fun σ H Q ⟨E, N, c, env, st, d, st', R, q, k⟩ => by
  unfold eTup at q
  split at q
  · cases q
  · rename_i ds s1 q1
    split at q
    · rename_i hl
      cases q
      refine ⟨E, N, c, env, st, ds, _, R, q1, fun vs N1 c1 H1 x1 W1 r1 => ⟨sz6 (by rw [r1.length]; exact hl), fun p hp => ?_⟩⟩
      exact k _ _ _ _ (x1.trans (Ex.laid W1 hp) R.wd) (W1.laid hp) (Rep.laidT W1 hp r1)
    · cases q
theorem d_lst (h : PA X es (tA mg g)) : PE X (.List es pos) (tL mg (lDisp g)) := pe_weak (pe_lst h) fun σ H Q ⟨E, N, c, env, st, d, st', R, q, k⟩ => by
  unfold lDisp at q
  split at q
  · cases q
  · rename_i ds s1 q1
    split at q
    · rename_i hl
      cases q
      refine ⟨E, N, c, env, st, _, _, R, q1, fun vs N1 c1 H1 x1 W1 r1 => ⟨sz6 (by rw [r1.length]; exact hl), fun p hp => ?_⟩⟩
      exact k _ _ _ _ (x1.trans (Ex.laidN W1 hp) R.wd) (W1.laidN hp) (back_N R.wd x1 W1 (RN.laid W1 hp r1))
    · cases q
end

/-! ### subscripts -/
def oIx : D → D → Sto → Option D := fun x y st => match y with
  | .int i => match x with
    | .tup xs => atI xs i
    | .str z => if z.length ≤ 1000000 then (match atI z.cps.toList i with | some ch => some (.str ⟨#[ch]⟩) | none => none) else none
    | x => match lstR st x with
      | some xs => atI xs i
      | none => none
  | _ => none
theorem RepL.atI {mg : Glob} {N : Prot} {c : List Addr} {H : Hp} {vs : List V} {ds : List D} {i : Int} {d : D} (r : RepL mg N c H vs ds) (h : L2.atI ds i = some d) : ∃ v, L2.atI vs i = some v ∧ Rep mg N c H v d := by
  unfold L2.atI at h ⊢
  rw [r.length]
  cases e : ixN ds.length i with
  | none => rw [e] at h; cases h
  | some j =>
    rw [e] at h
    exact r.get h
theorem ok_ix {mg : Glob} : OpOk mg (RE mg) (rIx mg.K) oIx := by
  intro N c H st u v x y d Q W p1 p2 e k
  unfold oIx at e
  split at e
  · rename_i i
    split at e
    · rename_i xs
      obtain ⟨a, vs, rfl, ha, r⟩ := p1.tup
      obtain ⟨w, hw, rw_⟩ := r.atI e
      exact .inr (.inl ⟨a, vs, i, w, rfl, p2.int, SqT.of ha, hw, k w N c H Ex.refl W rw_⟩)
    · rename_i z
      split at e
      · rename_i hl
        split at e
        · rename_i ch hch
          cases e
          exact .inr (.inr ⟨z, i, ch, p1.str, p2.int, sz6 hl, hch, k _ N c H Ex.refl W (.str _)⟩)
        · cases e
      · cases e
    · split at e
      · rename_i xs hx
        obtain ⟨a, vs, rfl, ha, r⟩ := RepT.read W p1 hx
        obtain ⟨w, hw, rw_⟩ := r.atI e
        exact .inl ⟨a, vs, i, w, rfl, p2.int, ha, hw, k w N c H Ex.refl W rw_⟩
      · cases e
  · cases e
section
variable {mg : Glob} {X : Cx} {a b : Expr} {pos p2 : Pos} {fa fb : SE}
theorem d_ix (ha : PE X a (tP mg fa)) (hb : PE X b (tP mg fb)) (hs : PlainIx b := by exact fun _ _ => rfl) (hK : X.K = mg.K := by rfl) : PE X (.Subscript a b pos) (tE mg (eOp oIx fa fb)) := pe_weak (pe_ix (hK ▸ ix_seq) ha hb hs) fun _ _ _ h => r_op ok_ix back_E h
end

/-! ### slices -/
def cutD {α : Type} (xs : List α) (lo hi : Option Int) : List α := (xs.drop (HT.sIx xs.length 0 lo)).take (HT.sIx xs.length xs.length hi - HT.sIx xs.length 0 lo)
/-- a part of a slice -/
abbrev SO := Fx (Option Int)
def tOX (mg : Glob) (f : SO) : TO := fun σ H Q => ∃ (E : En) (N : Prot) (c : List Addr) (env : Env) (st : Sto) (d : Option Int) (st' : Sto), Rel mg E N c env st σ H ∧ f env st = some (d, st') ∧
  ∀ N' c' H', Ex N c H N' c' H' → Wd mg N' c' H' st' → Q d H'
def oNone : SO := fun _ st => some (none, st)
def oSome (f : SE) : SO := fun env st => match f env st with
  | some (.int i, s1) => some (some i, s1)
  | _ => none
def eSl {α : Type} (op : D → Option Int → Option Int → Sto → Option α) (f : SE) (lo hi : SO) : Fx α := fun env st => match f env st with
  | none => none
  | some (x, s1) => match lo env s1 with
    | none => none
    | some (l, s2) => match hi env s2 with
      | none => none
      | some (h, s3) => match op x l h s3 with
        | none => none
        | some d => some (d, s3)
def slL : D → Option Int → Option Int → Sto → Option (List D) := fun x lo hi st => match lstR st x with
  | some xs => some (cutD xs lo hi)
  | none => none
def slT : D → Option Int → Option Int → Sto → Option D := fun x lo hi _ => match x with
  | .tup xs => some (.tup (cutD xs lo hi))
  | _ => none
theorem po_weak {X : Cx} {e : Option Expr} {t t' : TO} (h : PO X e t) (w : ∀ σ H Q, t' σ H Q → t σ H Q) : PO X e t' := ⟨fun pins s σ H Q I q => h.run pins s σ H Q I (w σ H Q q)⟩
section
variable {mg : Glob} {X : Cx} {e : Expr} {lo hi : Option Expr} {pos p2 : Pos} {f : SE} {gl gh : SO}
theorem o_none : PO X none (tOX mg oNone) := po_weak po_none fun σ H Q ⟨E, N, c, env, st, d, st', R, q, k⟩ => by
  cases q
  exact k N c H Ex.refl R.wd
theorem o_some (h : PE X e (tP mg f)) : PO X (some e) (tOX mg (oSome f)) := po_weak (po_some h) fun σ H Q ⟨E, N, c, env, st, d, st', R, q, k⟩ => by
  unfold oSome at q
  split at q
  · rename_i i s1 q1
    cases q
    exact ⟨E, N, c, env, st, _, _, R, q1, fun v N1 c1 H1 x1 W1 r1 => ⟨i, r1.int, k N1 c1 H1 x1 W1⟩⟩
  · cases q
def SlOk {α : Type} (mg : Glob) (R : Told α) (r : V → Option Int → Option Int → Hp → VK → Prop) (op : D → Option Int → Option Int → Sto → Option α) : Prop := ∀ (N : Prot) (c : List Addr) (H : Hp) (st : Sto) (u : V) (lo hi : Option Int) (x : D) (d : α) (Q : VK), Wd mg N c H st → RepT mg N c H u x → op x lo hi st = some d →
  (∀ w N' c' H', Ex N c H N' c' H' → Wd mg N' c' H' st → R N c H N' c' H' w d → Q w H') → r u lo hi H Q
theorem r_sl {α : Type} {Rt : Told α} {r : V → Option Int → Option Int → Hp → VK → Prop} {op : D → Option Int → Option Int → Sto → Option α} (hk : SlOk mg Rt r op) (hb : Back mg Rt) {σ : L2.St} {H : Hp} {Q : VK} (h : tX mg Rt (eSl op f gl gh) σ H Q) : tSl r (tP mg f) (tOX mg gl) (tOX mg gh) σ H Q := by
  obtain ⟨E, N, c, env, st, d, st', R0, q, k⟩ := h
  unfold eSl at q
  split at q
  · cases q
  · rename_i x s1 q1
    split at q
    · cases q
    · rename_i l s2 q2
      split at q
      · cases q
      · rename_i hh s3 q3
        split at q
        · cases q
        · rename_i d0 q4
          cases q
          refine ⟨E, N, c, env, st, x, s1, R0, q1, fun v1 N1 c1 H1 x1 W1 p1 => ?_⟩
          refine ⟨E, N1, c1, env, s1, l, s2, R0.ex x1 W1, q2, fun N2 c2 H2 x2 W2 => ?_⟩
          have x12 := x1.trans x2 R0.wd
          refine ⟨E, N2, c2, env, s2, hh, _, R0.ex x12 W2, q3, fun N3 c3 H3 x3 W3 => ?_⟩
          have x13 := x12.trans x3 R0.wd
          refine hk N3 c3 H3 _ v1 l hh x _ Q W3 (RepT.ex x3 W2 (RepT.ex x2 W1 p1)) q4 fun w N' c' H' x4 W4 p4 => ?_
          exact k w N' c' H' (x13.trans x4 R0.wd) W4 (hb R0.wd x13 W3 p4)
theorem RepL.cut {N : Prot} {c : List Addr} {H : Hp} {vs : List V} {ds : List D} (r : RepL mg N c H vs ds) (lo hi : Option Int) : RepL mg N c H (cutV vs lo hi) (cutD ds lo hi) := by
  unfold cutV cutD
  rw [r.length]
  exact (r.drop _).take _
theorem ok_slL : SlOk mg (RN mg) (rSlL mg.K) slL := by
  intro N c H st u lo hi x d Q W p1 e k
  unfold slL at e
  split at e
  · rename_i xs hx
    cases e
    obtain ⟨a, vs, rfl, ha, r⟩ := RepT.read W p1 hx
    exact ⟨a, vs, rfl, ha, fun p hp => k _ _ _ _ (Ex.laidN W hp) (W.laidN hp) (RN.laid W hp (r.cut lo hi))⟩
  · cases e
theorem cut_whole {α : Type} {xs : List α} {lo hi : Option Int} (h : HT.sIx xs.length 0 lo = 0 ∧ HT.sIx xs.length xs.length hi = xs.length) : cutD xs lo hi = xs := by
  unfold cutD
  rw [h.1, h.2, List.drop_zero, Nat.sub_zero, List.take_length]
theorem ok_slT {K : PySem.W.Frag} : SlOk mg (RE mg) (rSlA K) slT := by
  intro N c H st u lo hi x d Q W p1 e k
  unfold slT at e
  split at e
  · rename_i xs
    cases e
    have p1' := p1
    obtain ⟨a, vs, rfl, ha, r⟩ := p1.tup
    have rep : Rep mg N c H (.ref a) (.tup xs) := by
      rcases p1' with z | ⟨_, _, _, _, z, _⟩
      · exact z
      · cases z
    refine ⟨a, vs, rfl, SqT.of ha, fun hw => ?_, fun _ p hp => ?_⟩
    · rw [r.length] at hw
      rw [cut_whole hw] at k
      exact k _ N c H Ex.refl W rep
    · exact k _ _ _ _ (Ex.laid W hp) (W.laid hp) (Rep.laidT W hp (r.cut lo hi))
  · cases e
theorem d_slL (he : PE X e (tP mg f)) (hl : PO X lo (tOX mg gl)) (hu : PO X hi (tOX mg gh)) (hK : X.K = mg.K := by rfl) : PE X (.Subscript e (.Slice lo hi none p2) pos) (tL mg (eSl slL f gl gh)) := pe_weak (pe_slice (hK ▸ sl_list) he hl hu) fun _ _ _ h => r_sl ok_slL back_N h
theorem d_slT (he : PE X e (tP mg f)) (hl : PO X lo (tOX mg gl)) (hu : PO X hi (tOX mg gh)) : PE X (.Subscript e (.Slice lo hi none p2) pos) (tE mg (eSl slT f gl gh)) := pe_weak (pe_slice sl_tupA he hl hu) fun _ _ _ h => r_sl ok_slT back_E h
end
end LW

/-! LwE: built-in calls; defs by their promise, calls of defs, methods, classes, properties. -/
namespace LW
open PySem L2 PyProof.Rows

/-! ### built-in calls -/
def eBi {α : Type} (g : List D → Sto → Option α) (f : SA) : Fx α := fun env st => match f env st with
  | none => none
  | some (ds, s1) => match g ds s1 with
    | none => none
    | some d => some (d, s1)
def BiOk {α : Type} (mg : Glob) (R : Told α) (r : List V → Hp → VK → Prop) (g : List D → Sto → Option α) : Prop := ∀ (N : Prot) (c : List Addr) (H : Hp) (st : Sto) (us : List V) (ds : List D) (d : α) (Q : VK), Wd mg N c H st → RepTL mg N c H us ds → g ds st = some d →
  (∀ w N' c' H', Ex N c H N' c' H' → Wd mg N' c' H' st → R N c H N' c' H' w d → Q w H') → r us H Q
def orB {α : Type} (f g : List D → Sto → Option α) : List D → Sto → Option α := fun ds st => match f ds st with
  | some d => some d
  | none => g ds st
section
variable {α : Type} {mg : Glob} {R : Told α} {r r' : List V → Hp → VK → Prop} {g g' : List D → Sto → Option α} {f : SA} {X : Cx} {x : Str} {e : Expr} {es : List Expr} {p pos : Pos}
theorem BiOk.or (h : BiOk mg R r g) (h' : BiOk mg R r' g') : BiOk mg R (fun xs H Q => r xs H Q ∨ r' xs H Q) (orB g g') := by
  intro N c H st us ds d Q W p q k
  unfold orB at q
  split at q
  · rename_i d0 e0
    cases q
    exact .inl (h N c H st us ds _ Q W p e0 k)
  · exact .inr (h' N c H st us ds d Q W p q k)
theorem r_bi (hk : BiOk mg R r g) (hb : Back mg R) {σ : L2.St} {H : Hp} {Q : VK} (h : tX mg R (eBi g f) σ H Q) : tCB r (tAP mg f) σ H Q := by
  obtain ⟨E, N, c, env, st, d, st', R0, q, k⟩ := h
  unfold eBi at q
  split at q
  · cases q
  · rename_i ds s1 q1
    split at q
    · cases q
    · rename_i d0 q2
      cases q
      refine ⟨E, N, c, env, st, ds, _, R0, q1, fun vs N1 c1 H1 x1 W1 p1 => ?_⟩
      refine hk N1 c1 H1 _ vs ds _ Q W1 p1 q2 fun w N' c' H' x2 W2 p2 => ?_
      exact k w N' c' H' (x1.trans x2 R0.wd) W2 (hb R0.wd x1 W1 p2)
/-- f(e, ..), f a built-in function; T(e, ..), T a built-in class -/
theorem d_bi {id : String} (hc : CallR X (.builtin id) r) (hk : BiOk mg R r g) (hb : Back mg R) (hg : Gl X x) (hm : X.mg x = none) (hv : bootBuiltins x = some (.builtin id)) (ha : PA X (e :: es) (tAP mg f)) (hn : x ≠ "__name__" := by decide) (hdb : (x == ("__debug__" : Str)) = false := by decide)
    (he : starEach (e :: es) X.env = (false, eval e X.env) :: starEach es X.env := by rfl) (hpl : (backTo pos (starEach es X.env)).any (·.1) = false := by rfl) : PE X (.Call (.Name x p) (e :: es) [] pos) (tX mg R (eBi g f)) :=
  pe_weak (pe_callB hc hg hm hv ha hn hdb he hpl) fun _ _ _ h => r_bi hk hb h
theorem d_bt {T : String} (hc : CallR X (.type T) r) (hk : BiOk mg R r g) (hb : Back mg R) (hg : Gl X x) (hm : X.mg x = none) (hv : bootBuiltins x = some (.type T)) (ha : PA X (e :: es) (tAP mg f)) (hn : x ≠ "__name__" := by decide) (hdb : (x == ("__debug__" : Str)) = false := by decide)
    (he : starEach (e :: es) X.env = (false, eval e X.env) :: starEach es X.env := by rfl) (hpl : (backTo pos (starEach es X.env)).any (·.1) = false := by rfl) : PE X (.Call (.Name x p) (e :: es) [] pos) (tX mg R (eBi g f)) :=
  pe_weak (pe_callTy hc hg hm hv ha hn hdb he hpl) fun _ _ _ h => r_bi hk hb h
end
section
variable {mg : Glob} {N : Prot} {c : List Addr} {H : Hp} {us : List V}
theorem tl1 {d : D} (h : RepTL mg N c H us [d]) : ∃ u, us = [u] ∧ RepT mg N c H u d := by
  cases h with
  | cons h t => cases t; exact ⟨_, rfl, h⟩
theorem tl2 {d d' : D} (h : RepTL mg N c H us [d, d']) : ∃ u u', us = [u, u'] ∧ RepT mg N c H u d ∧ RepT mg N c H u' d' := by
  cases h with
  | cons h t => obtain ⟨u', rfl, h'⟩ := tl1 t; exact ⟨_, _, rfl, h, h'⟩
end
/-- len of a list, a tuple, a text -/
def gLen : List D → Sto → Option D := fun ds st => match ds with
  | [.tup xs] => some (.int xs.length)
  | [.str z] => if z.length ≤ 1000000 then some (.int z.length) else none
  | [x] => match lstR st x with
    | some xs => some (.int xs.length)
    | none => none
  | _ => none
theorem ok_len {mg : Glob} : BiOk mg (RE mg) (fun xs H Q => (∃ p ys, xs = [.ref p] ∧ (SqL mg.K H p ys ∨ SqT mg.K H p ys) ∧ Q (.int ys.length) H) ∨ ∃ z, xs = [.str z] ∧ z.length ≤ sizeLine ∧ Q (.int z.length) H) gLen := by
  intro N c H st us ds d Q W p q k
  unfold gLen at q
  split at q
  · rename_i xs
    cases q
    obtain ⟨u, rfl, h⟩ := tl1 p
    obtain ⟨a, vs, rfl, ha, r⟩ := h.tup
    refine .inl ⟨a, vs, rfl, .inr (SqT.of ha), ?_⟩
    rw [r.length]
    exact k _ N c H Ex.refl W (.int _)
  · rename_i z
    split at q
    · rename_i hl
      cases q
      obtain ⟨u, rfl, h⟩ := tl1 p
      exact .inr ⟨z, by rw [h.str], sz6 hl, k _ N c H Ex.refl W (.int _)⟩
    · cases q
  · split at q
    · rename_i xs hx
      cases q
      obtain ⟨u, rfl, h⟩ := tl1 p
      obtain ⟨a, vs, rfl, ha, r⟩ := RepT.read W h hx
      refine .inl ⟨a, vs, rfl, .inl ha, ?_⟩
      rw [r.length]
      exact k _ N c H Ex.refl W (.int _)
    · cases q
  · cases q
/-- a list of whole numbers -/
def intsOf : List D → Option (List Int)
  | [] => some []
  | .int i :: r => match intsOf r with
    | some ns => some (i :: ns)
    | none => none
  | _ :: _ => none
theorem intsOf_eq : ∀ {xs : List D} {ns : List Int}, intsOf xs = some ns → xs = ns.map D.int
  | [], _, e => by cases e; rfl
  | .int i :: r, ns, e => by
    unfold intsOf at e
    split at e
    · rename_i ms hm
      cases e
      rw [intsOf_eq hm]; rfl
    · cases e
  | .non :: _, _, e => by cases e
  | .bl _ :: _, _, e => by cases e
  | .str _ :: _, _, e => by cases e
  | .ty _ :: _, _, e => by cases e
  | .tup _ :: _, _, e => by cases e
  | .lst _ :: _, _, e => by cases e
  | .fro _ :: _, _, e => by cases e
  | .cell _ :: _, _, e => by cases e
  | .obj _ _ _ :: _, _, e => by cases e
  | .cls _ :: _, _, e => by cases e
  | .dic _ _ :: _, _, e => by cases e
  | .dit _ _ :: _, _, e => by cases e
theorem intsOf_map : ∀ (ns : List Int), intsOf (ns.map D.int) = some ns
  | [] => rfl
  | n :: r => by
    show (match intsOf (r.map D.int) with | some ns => some (n :: ns) | none => none) = _
    rw [intsOf_map r]
def lstI (st : Sto) (x : D) : Option (List Int) := match lstR st x with
  | some xs => intsOf xs
  | none => none
theorem RepT.ints {mg : Glob} {N : Prot} {c : List Addr} {H : Hp} {st : Sto} {u : V} {x : D} {ns : List Int} (W : Wd mg N c H st) (h : RepT mg N c H u x) (e : lstI st x = some ns) : ∃ a, u = .ref a ∧ SqL mg.K H a (ns.map V.int) := by
  unfold lstI at e
  split at e
  · rename_i xs hx
    obtain ⟨a, vs, rfl, ha, r⟩ := RepT.read W h hx
    rw [intsOf_eq e] at r
    rw [r.of_ints] at ha
    exact ⟨a, rfl, ha⟩
  · cases e
def gSum : List D → Sto → Option D := fun ds st => match ds with
  | [x] => match lstI st x with
    | some ns => some (.int ns.sum)
    | none => none
  | _ => none
theorem ok_sum {mg : Glob} : BiOk mg (RE mg) (rSum mg.K) gSum := by
  intro N c H st us ds d Q W p q k
  unfold gSum at q
  split at q
  · split at q
    · rename_i ns hn
      cases q
      obtain ⟨u, rfl, h⟩ := tl1 p
      obtain ⟨a, rfl, ha⟩ := h.ints W hn
      exact ⟨a, ns, rfl, ha, k _ N c H Ex.refl W (.int _)⟩
    · cases q
  · cases q
def maxL : List Int → Option Int
  | [] => none
  | x :: r => match maxL r with
    | none => some x
    | some m => some (if m < x then x else m)
def minL : List Int → Option Int
  | [] => none
  | x :: r => match minL r with
    | none => some x
    | some m => some (if x < m then x else m)
theorem maxL_ok : ∀ {l : List Int} {m : Int}, maxL l = some m → m ∈ l ∧ ∀ y ∈ l, y ≤ m
  | [], _, e => by cases e
  | x :: r, m, e => by
    unfold maxL at e
    cases h : maxL r with
    | none =>
      rw [h] at e
      cases e
      cases r with
      | nil => exact ⟨List.mem_cons_self, fun y hy => by simp at hy; omega⟩
      | cons z t =>
        unfold maxL at h
        split at h <;> cases h
    | some k =>
      rw [h] at e
      dsimp only at e
      obtain ⟨h1, h2⟩ := maxL_ok h
      split at e
      · cases e
        exact ⟨List.mem_cons_self, fun y hy => (List.mem_cons.mp hy).elim (fun e => by omega) fun z => by have := h2 y z; omega⟩
      · cases e
        exact ⟨List.mem_cons_of_mem _ h1, fun y hy => (List.mem_cons.mp hy).elim (fun e => by omega) fun z => h2 y z⟩
theorem minL_ok : ∀ {l : List Int} {m : Int}, minL l = some m → m ∈ l ∧ ∀ y ∈ l, m ≤ y
  | [], _, e => by cases e
  | x :: r, m, e => by
    unfold minL at e
    cases h : minL r with
    | none =>
      rw [h] at e
      cases e
      cases r with
      | nil => exact ⟨List.mem_cons_self, fun y hy => by simp at hy; omega⟩
      | cons z t =>
        unfold minL at h
        split at h <;> cases h
    | some k =>
      rw [h] at e
      dsimp only at e
      obtain ⟨h1, h2⟩ := minL_ok h
      split at e
      · cases e
        exact ⟨List.mem_cons_self, fun y hy => (List.mem_cons.mp hy).elim (fun e => by omega) fun z => by have := h2 y z; omega⟩
      · cases e
        exact ⟨List.mem_cons_of_mem _ h1, fun y hy => (List.mem_cons.mp hy).elim (fun e => by omega) fun z => h2 y z⟩
def gMax : List D → Sto → Option D := fun ds st => match ds with
  | [.int i, .int j] => some (.int (if j > i then j else i))
  | [x] => match lstI st x with
    | some ns => match maxL ns with
      | some m => some (.int m)
      | none => none
    | none => none
  | _ => none
def gMin : List D → Sto → Option D := fun ds st => match ds with
  | [.int i, .int j] => some (.int (if j < i then j else i))
  | [x] => match lstI st x with
    | some ns => match minL ns with
      | some m => some (.int m)
      | none => none
    | none => none
  | _ => none
theorem ok_max {mg : Glob} : BiOk mg (RE mg) (fun xs H Q => (∃ i j, xs = [.int i, .int j] ∧ Q (.int (if j > i then j else i)) H) ∨ rMax mg.K xs H Q) gMax := by
  intro N c H st us ds d Q W p q k
  unfold gMax at q
  split at q
  · rename_i i j
    cases q
    obtain ⟨u, u', rfl, h, h'⟩ := tl2 p
    exact .inl ⟨i, j, by rw [h.int, h'.int], k _ N c H Ex.refl W (.int _)⟩
  · split at q
    · rename_i ns hn
      split at q
      · rename_i m hm
        cases q
        obtain ⟨u, rfl, h⟩ := tl1 p
        obtain ⟨a, rfl, ha⟩ := h.ints W hn
        obtain ⟨h1, h2⟩ := maxL_ok hm
        refine .inr ⟨a, ns, rfl, ha, List.length_pos_of_mem h1, fun m' h3 h4 => ?_⟩
        have e : m' = m := by
          have := h2 m' h3
          have := h4 m h1
          omega
        rw [e]
        exact k _ N c H Ex.refl W (.int _)
      · cases q
    · cases q
  · cases q
theorem ok_min {mg : Glob} : BiOk mg (RE mg) (fun xs H Q => (∃ i j, xs = [.int i, .int j] ∧ Q (.int (if j < i then j else i)) H) ∨ rMin mg.K xs H Q) gMin := by
  intro N c H st us ds d Q W p q k
  unfold gMin at q
  split at q
  · rename_i i j
    cases q
    obtain ⟨u, u', rfl, h, h'⟩ := tl2 p
    exact .inl ⟨i, j, by rw [h.int, h'.int], k _ N c H Ex.refl W (.int _)⟩
  · split at q
    · rename_i ns hn
      split at q
      · rename_i m hm
        cases q
        obtain ⟨u, rfl, h⟩ := tl1 p
        obtain ⟨a, rfl, ha⟩ := h.ints W hn
        obtain ⟨h1, h2⟩ := minL_ok hm
        refine .inr ⟨a, ns, rfl, ha, List.length_pos_of_mem h1, fun m' h3 h4 => ?_⟩
        have e : m' = m := by
          have := h2 m' h3
          have := h4 m h1
          omega
        rw [e]
        exact k _ N c H Ex.refl W (.int _)
      · cases q
    · cases q
  · cases q
/-- list(x), tuple(x) -/
def gList : List D → Sto → Option (List D) := fun ds st => match ds with
  | [.tup xs] => some xs
  | [x] => lstR st x
  | _ => none
theorem ok_list {mg : Glob} : BiOk mg (RN mg) (fun xs H Q => ∃ p ys, xs = [.ref p] ∧ (SqL mg.K H p ys ∨ SqT mg.K H p ys) ∧ ∀ l, H l = none → Q (.ref l) (upd H l (.lst ys))) gList := by
  intro N c H st us ds d Q W p q k
  unfold gList at q
  split at q
  · cases q
    obtain ⟨u, rfl, h⟩ := tl1 p
    obtain ⟨a, vs, rfl, ha, r⟩ := h.tup
    exact ⟨a, vs, rfl, .inr (SqT.of ha), fun l hl => k _ _ _ _ (Ex.laidN W hl) (W.laidN hl) (RN.laid W hl r)⟩
  · obtain ⟨u, rfl, h⟩ := tl1 p
    obtain ⟨a, vs, rfl, ha, r⟩ := RepT.read W h q
    exact ⟨a, vs, rfl, .inl ha, fun l hl => k _ _ _ _ (Ex.laidN W hl) (W.laidN hl) (RN.laid W hl r)⟩
  · cases q
section
variable {mg : Glob} {X : Cx} {e : Expr} {es : List Expr} {p pos : Pos} {f : SA}
theorem d_len (hm : X.mg "len" = none) (ha : PA X (e :: es) (tAP mg f)) (hg : Gl X "len" := by rfl) (he : starEach (e :: es) X.env = (false, eval e X.env) :: starEach es X.env := by rfl) (hpl : (backTo pos (starEach es X.env)).any (·.1) = false := by rfl) (hK : X.K = mg.K := by rfl) : PE X (.Call (.Name "len" p) (e :: es) [] pos) (tE mg (eBi gLen f)) :=
  d_bi (hK ▸ CallR.or call_len_seq call_len_str) ok_len back_E hg hm PySem.boot_len ha (by decide) (by decide) he hpl
theorem d_sum (hc : X.calm = true) (hm : X.mg "sum" = none) (ha : PA X (e :: es) (tAP mg f)) (hg : Gl X "sum" := by rfl) (he : starEach (e :: es) X.env = (false, eval e X.env) :: starEach es X.env := by rfl) (hpl : (backTo pos (starEach es X.env)).any (·.1) = false := by rfl) (hK : X.K = mg.K := by rfl) : PE X (.Call (.Name "sum" p) (e :: es) [] pos) (tE mg (eBi gSum f)) :=
  d_bi (hK ▸ cr_sum hc) ok_sum back_E hg hm (by decide +kernel) ha (by decide) (by decide) he hpl
theorem d_max (hc : X.calm = true) (hm : X.mg "max" = none) (ha : PA X (e :: es) (tAP mg f)) (hg : Gl X "max" := by rfl) (he : starEach (e :: es) X.env = (false, eval e X.env) :: starEach es X.env := by rfl) (hpl : (backTo pos (starEach es X.env)).any (·.1) = false := by rfl) (hK : X.K = mg.K := by rfl) : PE X (.Call (.Name "max" p) (e :: es) [] pos) (tE mg (eBi gMax f)) :=
  d_bi (hK ▸ CallR.or (call_max2 hc) (cr_max hc)) ok_max back_E hg hm (by decide +kernel) ha (by decide) (by decide) he hpl
theorem d_min (hc : X.calm = true) (hm : X.mg "min" = none) (ha : PA X (e :: es) (tAP mg f)) (hg : Gl X "min" := by rfl) (he : starEach (e :: es) X.env = (false, eval e X.env) :: starEach es X.env := by rfl) (hpl : (backTo pos (starEach es X.env)).any (·.1) = false := by rfl) (hK : X.K = mg.K := by rfl) : PE X (.Call (.Name "min" p) (e :: es) [] pos) (tE mg (eBi gMin f)) :=
  d_bi (hK ▸ CallR.or (call_min2 hc) (cr_min hc)) ok_min back_E hg hm (by decide +kernel) ha (by decide) (by decide) he hpl
theorem d_list (hm : X.mg "list" = none) (ha : PA X (e :: es) (tAP mg f)) (hg : Gl X "list" := by rfl) (he : starEach (e :: es) X.env = (false, eval e X.env) :: starEach es X.env := by rfl) (hpl : (backTo pos (starEach es X.env)).any (·.1) = false := by rfl) (hK : X.K = mg.K := by rfl) : PE X (.Call (.Name "list" p) (e :: es) [] pos) (tL mg (eBi gList f)) :=
  d_bt (hK ▸ call_list_of) ok_list back_N hg hm (by decide +kernel) ha (by decide) (by decide) he hpl
end
end LW

/-! LwF: repr, isinstance; defs by their promise. -/
namespace LW
open PySem L2 PyProof.Rows

/-! ### repr -/
def rRepr (K : PySem.W.Frag) : List V → Hp → VK → Prop := fun xs H Q => ∃ (x : V) (d : PyData), xs = [x] ∧ Dp K H x d ∧ SeqAt.shaped d = true ∧ d.showable = true ∧ d.shown.length ≤ sizeLine ∧ Q (.str d.shown) H
theorem call_repr {X : Cx} (hg : X.A.guards = some []) (hu : X.A.units + 80 < cLine) : CallR X (.builtin "repr") (rRepr X.K) := by
  intro pins s σ H xs us Q I r h
  obtain ⟨x, d, rfl, hd, hsh, hs, hz, q⟩ := h
  obtain ⟨u, rfl, ru⟩ := vals1 r
  obtain ⟨as, rd⟩ := Dp.reads I d x u hd ru
  have dep := SeqAt.depth_of_shaped hsh
  have nd : d.hasDict = true → sysModules ∉ as := PyData.noDict_hsm (PyData.hasDict_of_canLay d (SeqAt.canLay_of_shaped hsh))
  have fin : ∀ (h' : Heap) (t : Tok) (tk : Nat), (∀ b o, s.heap.get? b = some o → h'.get? b = some o) → EP X pins σ Q (.str d.shown t) { s with heap := h', toks := tk } := fun h' t tk hk => ⟨.str d.shown, H, I.kept hk, ⟨t, rfl⟩, q⟩
  cases hd with
  | non =>
    cases (show u = Value.none from ru)
    exact PySem.P.repr_of_none (by have := fin s.heap s.toks (s.toks + 1) (fun _ _ e => e); simpa [PyData.shown] using this)
  | bl b =>
    cases (show u = Value.bool b from ru)
    exact PySem.P.repr_of_bool (by have := fin s.heap s.toks (s.toks + 1) (fun _ _ e => e); simpa [PyData.shown] using this)
  | int i =>
    obtain ⟨t, rfl⟩ := (show ∃ t, u = Value.int i t from ru)
    exact PySem.P.repr_of_int (by simpa [PyData.showable] using hs) (by have := fin s.heap s.toks (s.toks + 1) (fun _ _ e => e); simpa [PyData.shown] using this)
  | str z =>
    obtain ⟨t, rfl⟩ := (show ∃ t, u = Value.str z t from ru)
    exact PySem.P.repr_of_str (by have := fin s.heap s.toks (s.toks + 1) (fun _ _ e => e); simpa [PyData.shown] using this) (by simpa [PyData.shown] using hz)
  | @lst a _ _ _ _ =>
    cases (show u = Value.ref a from ru)
    exact repr_of_reads' rd hs nd hg (by omega) (fun _ _ e => e) (fun h' t tk hk => fin h' t tk hk) hz
  | @tup a _ _ _ _ =>
    cases (show u = Value.ref a from ru)
    exact repr_of_reads' rd hs nd hg (by omega) (fun _ _ e => e) (fun h' t tk hk => fin h' t tk hk) hz
def gRepr : List D → Sto → Option D := fun ds st => match ds with
  | [x] => match toPy 60 st x with
    | some p => if p.showable = true ∧ p.shown.length ≤ 1000000 then some (.str p.shown) else none
    | none => none
  | _ => none
theorem ok_repr {mg : Glob} : BiOk mg (RE mg) (rRepr mg.K) gRepr := by
  intro N c H st us ds d Q W p q k
  unfold gRepr at q
  split at q
  · split at q
    · rename_i pd hp
      split at q
      · rename_i hs
        cases q
        obtain ⟨u, rfl, h⟩ := tl1 p
        exact ⟨u, pd, rfl, dp_T W h hp, toPy_shaped hp, hs.1, sz6 hs.2, k _ N c H Ex.refl W (.str _)⟩
      · cases q
    · cases q
  · cases q
theorem d_repr {mg : Glob} {X : Cx} {e : Expr} {p pos : Pos} {f : SA} (hgd : X.A.guards = some []) (hu : X.A.units + 80 < cLine) (hm : X.mg "repr" = none) (ha : PA X [e] (tAP mg f)) (hg : Gl X "repr" := by rfl)
    (he : starEach [e] X.env = (false, eval e X.env) :: starEach [] X.env := by rfl) (hpl : (backTo pos (starEach [] X.env)).any (·.1) = false := by rfl) (hK : X.K = mg.K := by rfl) : PE X (.Call (.Name "repr" p) [e] [] pos) (tE mg (eBi gRepr f)) :=
  d_bi (hK ▸ call_repr hgd hu) ok_repr back_E hg hm (by decide +kernel) ha (by decide) (by decide) he hpl

/-! ### isinstance -/
inductive Ty7 where
  | non | bl | int | str | lst | tup | dic
def Ty7.name : Ty7 → String
  | .non => "NoneType"
  | .bl => "bool"
  | .int => "int"
  | .str => "str"
  | .lst => "list"
  | .tup => "tuple"
  | .dic => "dict"
/-- a dict in a cell -/
def isDcl (st : Sto) (k : Nat) : Bool := (dcG st k).isSome
theorem Wd.dcl {mg : Glob} {N : Prot} {c : List Addr} {H : Hp} {st : Sto} (W : Wd mg N c H st) {k : Nat} {a : Addr} (hc : c[k]? = some a) (e : isDcl st k = true) : (∃ kvs, H a = some (.dK kvs)) ∨ ∃ od kvs, H a = some (.frz od (.dK kvs)) := by
  unfold isDcl at e
  cases h : LW.dcG st k with
  | none => rw [h] at e; cases e
  | some p =>
    obtain ⟨kvs, ha, _⟩ := W.dcG hc h
    exact ha.imp (fun z => ⟨_, z⟩) fun ⟨od, z⟩ => ⟨_, _, z⟩
def ty7 (st : Sto) : D → Option Ty7
  | .non => some .non
  | .bl _ => some .bl
  | .int _ => some .int
  | .str _ => some .str
  | .tup _ => some .tup
  | .lst _ => some .lst
  | .cell k => match lcG st k with
    | some _ => some .lst
    | none => none
  | .dcl k => match isDcl st k with
    | true => some .dic
    | false => none
  | .dic _ _ => some .dic
  | .dit _ _ => none
  | _ => none
/-- a built-in class that is asked for -/
def kind7 (b : String) : Option Ty7 := if b = "int" then some .int else if b = "str" then some .str else if b = "list" then some .lst else if b = "tuple" then some .tup else if b = "dict" then some .dic else if b = "bool" then some .bl else none
def isi7 : Ty7 → Ty7 → Bool
  | .int, .int => true
  | .bl, .int => true
  | .bl, .bl => true
  | .str, .str => true
  | .lst, .lst => true
  | .tup, .tup => true
  | .dic, .dic => true
  | _, _ => false
theorem isi7_ok (t k : Ty7) (hk : k ≠ .non) : kitB t.name k.name = some (isi7 t k) := by
  cases k <;> first | exact absurd rfl hk | (cases t <;> decide +kernel)
theorem kind7_name {b : String} {k : Ty7} (h : kind7 b = some k) : k.name = b ∧ k ≠ .non := by
  unfold kind7 at h
  split at h
  · rename_i e; cases h; exact ⟨e.symm, by simp⟩
  · split at h
    · rename_i e; cases h; exact ⟨e.symm, by simp⟩
    · split at h
      · rename_i e; cases h; exact ⟨e.symm, by simp⟩
      · split at h
        · rename_i e; cases h; exact ⟨e.symm, by simp⟩
        · split at h
          · rename_i e; cases h; exact ⟨e.symm, by simp⟩
          · split at h
            · rename_i e; cases h; exact ⟨e.symm, by simp⟩
            · cases h
theorem ty7_of {mg : Glob} {N : Prot} {c : List Addr} {H : Hp} {st : Sto} {u : V} {x : D} {t : Ty7} {K : PySem.W.Frag} (W : Wd mg N c H st) (h : RepT mg N c H u x) (e : ty7 st x = some t) : TyX K H u (.type t.name) := by
  rcases h with h | ⟨a, vs, xs, rfl, rfl, ha, _, r⟩
  · cases h with
    | non => cases e; exact .base .non
    | bl b => cases e; exact .base (.bl b)
    | int i => cases e; exact .base (.int i)
    | str z => cases e; exact .base (.str z)
    | tup h _ => cases e; exact .base (.tup h)
    | lst h _ _ => cases e; exact .base (.lst h)
    | @cell k a hc =>
      have e : (match lcG st k with | some _ => some Ty7.lst | none => none) = some t := e
      cases hx : lcG st k with
      | none => rw [hx] at e; cases e
      | some xs =>
        rw [hx] at e
        cases e
        obtain ⟨vs, ha, _⟩ := W.lstC hc hx
        exact .base (.lst ha)
    | @dcl k a hc =>
      have e : (match isDcl st k with | true => some Ty7.dic | false => none) = some t := e
      cases hx : isDcl st k with
      | false => rw [hx] at e; cases e
      | true =>
        rw [hx] at e
        cases e
        rcases W.dcl hc hx with ⟨kvs, ha⟩ | ⟨od, kvs, ha⟩
        · exact .base (.dK ha)
        · exact .fDict ha
    | dic h _ _ _ => cases e; exact .base (.dK h)
    | dfz h _ _ _ => cases e; exact .fDict h
    | _ => cases e
  · cases e
    exact .base (.lst ha)
/-- an own class as isinstance sees it -/
structure CF (K : PySem.W.Frag) (C : Addr) : Prop where
  cl : Cls K C
  ha : PySem.W.findIn K (.ref C) "__class__" = some (some (.builtin "object.__class__"))
  hn : PySem.W.specialIn K (.builtin "object.__class__") "__get__" = some (some (.builtin "getset_descriptor.__get__"))
  htk : PySem.W.takesIn K (.builtin "object.__class__") = some true
  hm : PySem.W.mroIn K C (.type "object") = some true
/-- the own classes cs: none is a kind of another -/
structure Isi (mg : Glob) (cs : List Str) : Prop where
  cf : ∀ n C, n ∈ cs → mg.mg n = some (.ref C) → CF mg.K C
  oo : ∀ n m C C', n ∈ cs → m ∈ cs → mg.mg n = some (.ref C) → mg.mg m = some (.ref C') → PySem.W.kitOne mg.K (.ref C) (.ref C') = some (decide (n = m))
  bo : ∀ (t : Ty7) m C, m ∈ cs → mg.mg m = some (.ref C) → PySem.W.kitOne mg.K (.type t.name) (.ref C) = some false
  ob : ∀ n C (t : Ty7), n ∈ cs → mg.mg n = some (.ref C) → t ≠ .non → PySem.W.kitOne mg.K (.ref C) (.type t.name) = some false
def gIsi (cs : List Str) : List D → Sto → Option D := fun ds st => match ds with
  | [x, .ty b] => match kind7 b with
    | some k => match ty7 st x with
      | some t => some (.bl (isi7 t k))
      | none => match x with
        | .obj n _ _ => if n ∈ cs then some (.bl false) else none
        | _ => none
    | none => none
  | [x, .cls m] => if m ∈ cs then (match ty7 st x with
      | some _ => some (.bl false)
      | none => match x with
        | .obj n _ _ => if n ∈ cs then some (.bl (decide (n = m))) else none
        | _ => none) else none
  | _ => none
theorem RepT.obj {mg : Glob} {N : Prot} {c : List Addr} {H : Hp} {u : V} {cn : Str} {ns : List Str} {ds : List D} (h : RepT mg N c H u (.obj cn ns ds)) : ∃ a C dx fs, u = .ref a ∧ mg.mg cn = some (.ref C) ∧ H a = some (.ins C dx fs) ∧ fs.map (·.1) = ns ∧ RepL mg N c H (fs.map (·.2)) ds := by
  rcases h with h | ⟨_, _, _, _, e, _⟩
  · cases h with
    | obj hc ha _ hn r => exact ⟨_, _, _, _, rfl, hc, ha, hn, r⟩
  · cases e
theorem RepT.cls {mg : Glob} {N : Prot} {c : List Addr} {H : Hp} {u : V} {cn : Str} (h : RepT mg N c H u (.cls cn)) : ∃ C, u = .ref C ∧ mg.mg cn = some (.ref C) := by
  rcases h with h | ⟨_, _, _, _, e, _⟩
  · cases h with
    | cls hc => exact ⟨_, rfl, hc⟩
  · cases e
theorem ok_isi {mg : Glob} {cs : List Str} (T : Isi mg cs) : BiOk mg (RE mg) (rIsi mg.K) (gIsi cs) := by
  intro N c H st us ds d Q W p q k
  unfold gIsi at q
  split at q
  · rename_i x b
    obtain ⟨u, u', rfl, h, h'⟩ := tl2 p
    have e' := h'.ty
    subst e'
    split at q
    · rename_i kd hkd
      obtain ⟨hname, hnon⟩ := kind7_name hkd
      split at q
      · rename_i t ht
        cases q
        exact ⟨u, .ty b, _, _, _, rfl, .ty b, ty7_of W h ht, by rw [← hname]; exact kit_ty (isi7_ok t kd hnon), k _ N c H Ex.refl W (.bl _)⟩
      · split at q
        · rename_i n ns vs
          split at q
          · rename_i hn
            cases q
            obtain ⟨a, C, dx, fs, rfl, hc, ha, _, _⟩ := h.obj
            have cf := T.cf _ C hn hc
            exact ⟨_, .ty b, _, _, _, rfl, .ty b, .base (.ins ha cf.cl cf.ha cf.hn cf.htk cf.hm), by rw [← hname]; exact T.ob _ C kd hn hc hnon, k _ N c H Ex.refl W (.bl _)⟩
          · cases q
        · cases q
    · cases q
  · rename_i x m
    obtain ⟨u, u', rfl, h, h'⟩ := tl2 p
    obtain ⟨C', rfl, hc'⟩ := h'.cls
    split at q
    · rename_i hm
      split at q
      · rename_i t ht
        cases q
        exact ⟨u, .ref C', _, _, _, rfl, .own C', ty7_of W h ht, T.bo t m C' hm hc', k _ N c H Ex.refl W (.bl _)⟩
      · split at q
        · rename_i n ns vs
          split at q
          · rename_i hn
            cases q
            obtain ⟨a, C, dx, fs, rfl, hc, ha, _, _⟩ := h.obj
            have cf := T.cf _ C hn hc
            exact ⟨_, .ref C', _, _, _, rfl, .own C', .base (.ins ha cf.cl cf.ha cf.hn cf.htk cf.hm), T.oo _ m C C' hn hm hc hc', k _ N c H Ex.refl W (.bl _)⟩
          · cases q
        · cases q
    · cases q
  · cases q
section
variable {mg : Glob} {X : Cx} {e : Expr} {es : List Expr} {p pos : Pos} {f : SA} {cs : List Str}
theorem d_isi (T : Isi mg cs) (hm : X.mg "isinstance" = none) (ha : PA X (e :: es) (tAP mg f)) (hg : Gl X "isinstance" := by rfl) (he : starEach (e :: es) X.env = (false, eval e X.env) :: starEach es X.env := by rfl) (hpl : (backTo pos (starEach es X.env)).any (·.1) = false := by rfl) (hK : X.K = mg.K := by rfl) : PE X (.Call (.Name "isinstance" p) (e :: es) [] pos) (tE mg (eBi (gIsi cs) f)) :=
  d_bi (hK ▸ call_isi) (ok_isi T) back_E hg hm (by decide +kernel) ha (by decide) (by decide) he hpl
/-- a class of the program as a value -/
theorem d_cls {x : Str} {C : Addr} (hg : Gl X x) (hm : X.mg x = some (.ref C)) (hd : (x == ("__debug__" : Str)) = false := by decide) (hM : X.mg = mg.mg := by rfl) : PE X (.Name x pos) (tE mg (eC (.cls x))) :=
  d_glob hg hm (v := .ref C) rfl (fun _ _ _ => .cls (hM ▸ hm)) hd
end
end LW

/-! LwG: calls of defs, methods, classes, properties, fields. -/
namespace LW
open PySem L2 PyProof.Rows

/-- what a def reckons: by data and the cells -/
abbrev FM := List D → Sto → Option (D × Sto)
/-- the promise: the def hands back what g reckons, and changes nothing but cells -/
def spM (mg : Glob) (g : FM) (n : Nat) : Sp := fun vs H Q _ => vs.length = n ∧ ∃ (N : Prot) (c : List Addr) (ds : List D) (st : Sto) (d : D) (st' : Sto), Wd mg N c H st ∧ RepL mg N c H vs ds ∧ g ds st = some (d, st') ∧
  ∀ v N' c' H', Ex N c H N' c' H' → Wd mg N' c' H' st' → Rep mg N' c' H' v d → Q v H'
/-- only so many arguments -/
def Ar (n : Nat) (g : FM) : Prop := ∀ ds st r, g ds st = some r → ds.length = n
def eCall (g : FM) (dd : List D) (f : SA) : SE := fun env st => match f env st with
  | none => none
  | some (ds, s1) => g (ds ++ dd) s1
/-- defaults as data -/
def Dfl (mg : Glob) (dvs : List V) (dd : List D) : Prop := ∀ N c H, RepL mg N c H dvs dd
theorem dfl_nil {mg : Glob} : Dfl mg [] [] := fun _ _ _ => .nil
section
variable {mg : Glob} {X : Cx} {k : Nat} {f C : Addr} {fd : FuncData} {ps : List Str} {g : FM} {n : Nat} {dvs : List V} {ds : List Value} {dd : List D} {x m : Str} {p pos apos : Pos} {e o : Expr} {es : List Expr} {fs : SA} {fo : SE}
theorem r_call (ha : Ar n g) (hd : Dfl mg dvs dd) {t : TA} (ht : t = tA mg fs) {E : XK} {σ : L2.St} {H : Hp} {Q : VK} (h : tE mg (eCall g dd fs) σ H Q) : tCall (spM mg g n) dvs E t σ H Q := by
  subst ht
  obtain ⟨E0, N, c, env, st, d, st', R, q, kk⟩ := h
  unfold eCall at q
  split at q
  · cases q
  · rename_i ds s1 q1
    refine ⟨E0, N, c, env, st, ds, s1, R, q1, fun vs N1 c1 H1 x1 W1 r1 => ?_⟩
    have r2 := r1.append (hd N1 c1 H1)
    refine ⟨by rw [r2.length]; exact ha _ _ _ q, N1, c1, ds ++ dd, s1, d, st', W1, r2, q, fun v N2 c2 H2 x2 W2 r3 => ?_⟩
    exact kk v N2 c2 H2 (x1.trans x2 R.wd) W2 r3
/-- f(e, ..) -/
theorem d_call (F : FnOk X.prog X.w X.K X.mg X.base CX0 k f fd ps (spM mg g n)) (har : Ar n g) (hr : Room k X.A) (hm : X.mg x = some (.ref f)) (hk : PySem.W.keepIn X.K (.ref f) = true) (hb : Binds X.K fd ps ds) (hd : Vals dvs ds) (hdd : Dfl mg dvs dd) (ha : PA X (e :: es) (tA mg fs))
    (hg : Gl X x := by rfl) (hdb : (x == ("__debug__" : Str)) = false := by decide) (he : starEach (e :: es) X.env = (false, eval e X.env) :: starEach es X.env := by rfl) (hpl : (backTo pos (starEach es X.env)).any (·.1) = false := by rfl) :
    PE X (.Call (.Name x p) (e :: es) [] pos) (tE mg (eCall g dd fs)) :=
  pe_weak (pe_call (E := E0) F hr hg hm hk hb hd pass0 ha hdb he hpl) fun _ _ _ h => r_call har hdd rfl h
/-! ### methods -/
def eMeth (cn m : Str) (g : FM) (dd : List D) (fo : SE) (f : SA) : SE := fun env st => match fo env st with
  | some (.obj cn' ns vs, s1) => if cn' = cn ∧ ¬ m ∈ ns then (match f env s1 with
      | none => none
      | some (ds, s2) => g (.obj cn' ns vs :: (ds ++ dd)) s2) else none
  | _ => none
theorem lookup_no {α : Type} {m : Str} : ∀ {l : List (Str × α)}, ¬ m ∈ l.map (·.1) → l.lookup m = none
  | [], _ => rfl
  | (a, b) :: r, h => by
    rw [List.map_cons, List.mem_cons, not_or] at h
    rw [List.lookup_cons]
    have : (m == a) = false := beq_eq_false_iff_ne.mpr h.1
    rw [this]
    exact lookup_no h.2
theorem r_meth {cn : Str} (hC : mg.mg cn = some (.ref C)) (har : Ar n g) (hd : Dfl mg dvs dd) {t : TA} (ht : ∀ σ H Q, tA mg fs σ H Q → t σ H Q) {E : XK} {σ : L2.St} {H : Hp} {Q : VK} (h : tE mg (eMeth cn m g dd fo fs) σ H Q) : tMeth C m (spM mg g n) dvs E (tE mg fo) t σ H Q := by
  obtain ⟨E0, N, c, env, st, d, st', R, q, kk⟩ := h
  unfold eMeth at q
  split at q
  · rename_i cn' ns vs s1 q1
    split at q
    · rename_i hcn
      obtain ⟨rfl, hm⟩ := hcn
      split at q
      · cases q
      · rename_i ds s2 q2
        refine ⟨E0, N, c, env, st, _, s1, R, q1, fun v N1 c1 H1 x1 W1 r1 => ?_⟩
        obtain ⟨a, C', dx, fs', rfl, hc, ha, hn, rr⟩ := RepT.obj (.inl r1)
        rw [hC] at hc
        cases hc
        refine ⟨a, dx, fs', rfl, ha, lookup_no (by rw [hn]; exact hm), ht _ _ _ ⟨E0, N1, c1, env, s1, ds, s2, R.ex x1 W1, q2, fun us N2 c2 H2 x2 W2 r2 => ?_⟩⟩
        have r3 := r2.append (hd N2 c2 H2)
        have r4 : RepL mg N2 c2 H2 (.ref a :: (us ++ dvs)) (.obj cn' ns vs :: (ds ++ dd)) := .cons (Rep.tr (x2.tr W1) r1) r3
        refine ⟨by rw [r4.length]; exact har _ _ _ q, N2, c2, _, s2, d, st', W2, r4, q, fun w N3 c3 H3 x3 W3 r5 => ?_⟩
        exact kk w N3 c3 H3 ((x1.trans x2 R.wd).trans x3 R.wd) W3 r5
    · cases q
  · cases q
theorem d_meth0 {cn : Str} (ho : PE X o (tE mg fo)) (hC : mg.mg cn = some (.ref C)) (c : Cls X.K C) (hm : Meth X.K C m f) (F : FnOk X.prog X.w X.K X.mg X.base CX0 k f fd ps (spM mg g n)) (har : Ar n g) (hr : Room k X.A) (hb : Binds X.K fd ps ds) (hd : Vals dvs ds) (hdd : Dfl mg dvs dd)
    {pl : Sem Bool} (ht : eval (.Call (.Attribute o m apos) [] [] pos) X.env = (do
      let ov ← eval o X.env
      standAt apos.atName
      let (f, first) ← holding [ov] (getMethod ov m pl)
      callWith pos f first (backTo pos (starEach [] X.env)) (backToKw pos (keywordEach [] X.env))) := by rfl) :
    PE X (.Call (.Attribute o m apos) [] [] pos) (tE mg (eMeth cn m g dd fo aNil)) :=
  pe_weak (pe_meth0 (E := E0) ho c hm F hr hb hd pass0 ht) fun _ _ _ h => r_meth hC har hdd (fun σ H Q ⟨E, N, c, env, st, d, st', R, q, k⟩ => by
    cases q
    exact k [] N c H Ex.refl R.wd .nil) h

/-! ### properties, fields -/
def eProp (cn : Str) (g : FM) (fo : SE) : SE := fun env st => match fo env st with
  | some (.obj cn' ns vs, s1) => if cn' = cn then g [.obj cn' ns vs] s1 else none
  | _ => none
def fldD (m : Str) : List Str → List D → Option D
  | n :: ns, v :: vs => if m = n then some v else fldD m ns vs
  | _, _ => none
theorem fldD_ok {N : Prot} {c : List Addr} {H : Hp} {m : Str} : ∀ {fs : List (Str × V)} {ds : List D} {d : D}, RepL mg N c H (fs.map (·.2)) ds → fldD m (fs.map (·.1)) ds = some d → ∃ v, fs.lookup m = some v ∧ Rep mg N c H v d
  | [], _, _, _, e => by cases e
  | (a, b) :: r, [], _, h, _ => by cases h
  | (a, b) :: r, d0 :: ds, d, h, e => by
    cases h with
    | cons h t =>
      show ∃ v, List.lookup m ((a, b) :: r) = some v ∧ _
      rw [List.lookup_cons]
      by_cases q : m = a
      · subst q
        have e' : (if m = m then some d0 else fldD m (r.map (·.1)) ds) = some d := e
        rw [if_pos rfl] at e'
        cases e'
        exact ⟨b, by simp, h⟩
      · have e' : (if m = a then some d0 else fldD m (r.map (·.1)) ds) = some d := e
        rw [if_neg q] at e'
        rw [show (m == a) = false from beq_eq_false_iff_ne.mpr q]
        exact fldD_ok t e'
def eFld (cn m : Str) (fo : SE) : SE := fun env st => match fo env st with
  | some (.obj cn' ns vs, s1) => if cn' = cn then (match fldD m ns vs with
      | some d => some (d, s1)
      | none => none) else none
  | _ => none
theorem d_fld {cn : Str} (ho : PE X o (tP mg fo)) (hC : mg.mg cn = some (.ref C)) (c : Cls X.K C) (hn : NoAttr X.K C m) (hab : attributeBase o m X.env (eval o X.env) = eval o X.env := by rfl) : PE X (.Attribute o m pos) (tE mg (eFld cn m fo)) :=
  pe_weak (pe_fld ho hab) fun σ H Q h => by
    obtain ⟨E0, N, c0, env, st, d, st', R, q, kk⟩ := h
    unfold eFld at q
    split at q
    · rename_i cn' ns vs s1 q1
      split at q
      · rename_i hcn
        subst hcn
        split at q
        · rename_i d0 hf
          cases q
          refine ⟨E0, N, c0, env, st, _, _, R, q1, fun v N1 c1 H1 x1 W1 r1 => ?_⟩
          obtain ⟨a, C', dx, fs', rfl, hc, ha, hnn, rr⟩ := RepT.obj r1
          rw [hC] at hc
          cases hc
          subst hnn
          obtain ⟨v, hv, rv⟩ := fldD_ok rr hf
          exact ⟨a, C, dx, fs', v, rfl, ha, c, hn, hv, kk v N1 c1 H1 x1 W1 rv⟩
        · cases q
      · cases q
    · cases q
end

/-! ### a new instance -/
/-- what an __init__ reckons: the fields -/
abbrev FI := List D → Sto → Option ((List Str × List D) × Sto)
def ArI (n : Nat) (g : FI) : Prop := ∀ ds st r, g ds st = some r → ds.length = n
def spI (mg : Glob) (cn : Str) (g : FI) (n : Nat) : Sp := fun vs H Q _ => vs.length = n + 1 ∧ ∃ (N : Prot) (c : List Addr) (x dx C : Addr) (us : List V) (ds : List D) (st : Sto) (ns : List Str) (fds : List D) (st' : Sto),
  vs = .ref x :: us ∧ mg.mg cn = some (.ref C) ∧ H x = some (.ins C dx []) ∧ N x ∧ x ∉ c ∧ Wd mg N c H st ∧ RepL mg N c H us ds ∧ g ds st = some ((ns, fds), st') ∧
  ∀ N' c' H' dx' fs, (∀ a o, H a = some o → a ∉ c → a ≠ x → H' a = some o) → (∀ a, N' a → N a ∨ H a = none) → (∀ a, N a → N' a) → (∀ (k : Nat) a, c[k]? = some a → c'[k]? = some a) → (∀ a, a ∈ c' → a ∈ c ∨ H a = none) →
    Wd mg N' c' H' st' → H' x = some (.ins C dx' fs) → fs.map (·.1) = ns → RepL mg N' c' H' (fs.map (·.2)) fds → Q .non H'
def eMake (cn : Str) (g : FI) (dd : List D) (f : SA) : SE := fun env st => match f env st with
  | none => none
  | some (ds, s1) => match g (ds ++ dd) s1 with
    | none => none
    | some ((ns, fds), s2) => some (.obj cn ns fds, s2)
section
variable {mg : Glob} {X : Cx} {k : Nat} {f C : Addr} {fd : FuncData} {ps : List Str} {g : FI} {n : Nat} {dvs : List V} {ds : List Value} {dd : List D} {x m : Str} {p pos apos : Pos} {e o : Expr} {es : List Expr} {fs : SA} {fo : SE}
theorem r_make {cn : Str} (hC : mg.mg cn = some (.ref C)) (har : ArI n g) (hd : Dfl mg dvs dd) {E : XK} {σ : L2.St} {H : Hp} {Q : VK} (h : tE mg (eMake cn g dd fs) σ H Q) : tMake C (spI mg cn g n) dvs E (tA mg fs) σ H Q := by
  obtain ⟨E0, N, c, env, st, d, st', R, q, kk⟩ := h
  unfold eMake at q
  split at q
  · cases q
  · rename_i ds s1 q1
    split at q
    · cases q
    · rename_i ns fds s2 q2
      cases q
      refine ⟨E0, N, c, env, st, ds, s1, R, q1, fun vs N1 c1 H1 x1 W1 r1 => fun z dz hz hdz hne => ?_⟩
      have r2 := r1.append (hd N1 c1 H1)
      -- the own dict is laid, then the instance, protected
      have xa := Ex.laid (o := .own z) W1 hdz
      have Wa := W1.laid (o := .own z) hdz
      have hz' : (upd H1 dz (.own z)) z = none := by rw [upd_ne (Ne.symm hne)]; exact hz
      have xb := Ex.laidN (o := .ins C dz []) Wa hz'
      have Wb := Wa.laidN (o := .ins C dz []) hz'
      have xab := xa.trans xb W1
      have r3 := r2.tr (xab.tr W1)
      refine ⟨by show (vs ++ dvs).length + 1 = n + 1; rw [r2.length, har _ _ _ q2], _, c1, z, dz, C, vs ++ dvs, ds ++ dd, s1, ns, fds, _, rfl, hC, upd_same, .inr rfl, Wa.cnone hz', Wb, r3, q2, ?_⟩
      intro N' c' H' dx' fs' h1 h2 h3 h4 h5 W' h6 h7 r4
      refine ⟨rfl, ?_⟩
      have nz : z ∉ c' := fun q => (h5 z q).elim (Wa.cnone hz') fun e => by rw [upd_same] at e; cases e
      have less : ∀ a, (N' a ∧ a ≠ z) → N' a := fun a q => q.1
      have free1 : ∀ a, (upd (upd H1 dz (.own z)) z (.ins C dz [])) a = none → H1 a = none := fun a e => by
        by_cases q1 : a = z
        · rw [q1]; exact hz
        · rw [upd_ne q1] at e
          by_cases q2 : a = dz
          · rw [q2]; exact hdz
          · rw [upd_ne q2] at e; exact e
      have xx : Ex N1 c1 H1 (fun a => N' a ∧ a ≠ z) c' H' := by
        refine ⟨fun a o e nc => ?_, fun a q => ?_, fun a q => ?_, h4, fun a q => ?_⟩
        · have n1 : a ≠ z := ne_of_none e hz
          have n2 : a ≠ dz := ne_of_none e hdz
          exact h1 a o (by rw [upd_ne n1, upd_ne n2]; exact e) nc n1
        · rcases h2 a q.1 with (z1 | z1) | z1
          · exact .inl z1
          · exact absurd z1 q.2
          · exact .inr (free1 a z1)
        · exact ⟨h3 a (.inl q), fun e => W1.trk a q (by rw [e]; exact hz)⟩
        · exact (h5 a q).elim .inl fun e => .inr (free1 a e)
      have W2 : Wd mg (fun a => N' a ∧ a ≠ z) c' H' _ := W'.less less fun a q => ⟨W'.cn a q, fun e => nz (e ▸ q)⟩
      exact kk _ _ _ _ (x1.trans xx R.wd) W2 (.obj hC h6 (fun q => q.2 rfl) h7 (r4.tr (Tr.less less)))
theorem d_make (M : Mk X.K C f) (F : FnOk X.prog X.w X.K X.mg X.base CX0 k f fd ps (spI mg x g n)) (har : ArI n g) (hr : Room (k + 1) X.A) (hm : X.mg x = some (.ref C)) (hb : Binds X.K fd ps ds) (hd : Vals dvs ds) (hdd : Dfl mg dvs dd) (ha : PA X (e :: es) (tA mg fs))
    (hM : X.mg = mg.mg := by rfl) (hg : Gl X x := by rfl) (hdb : (x == ("__debug__" : Str)) = false := by decide) (he : starEach (e :: es) X.env = (false, eval e X.env) :: starEach es X.env := by rfl) (hpl : (backTo pos (starEach es X.env)).any (·.1) = false := by rfl) :
    PE X (.Call (.Name x p) (e :: es) [] pos) (tE mg (eMake x g dd fs)) :=
  pe_weak (pe_make (E := E0) M F hr hg hm hb hd pass0 ha hdb he hpl) fun _ _ _ h => r_make (hM ▸ hm) har hdd h
end
end LW

/-! LwH: statements. -/
namespace LW
open PySem L2 PyProof.Rows

inductive Out where
  | nx (e : Env) | rt (d : D) | bk (e : Env) | ct (e : Env)
abbrev SS := Env → Sto → Option (Out × Sto)
/-- a step of a statement: what is not protected stays -/
structure Sx (N : Prot) (c : List Addr) (H : Hp) (N' : Prot) (c' : List Addr) (H' : Hp) : Prop where
  keep : ∀ a o, H a = some o → ¬ N a → H' a = some o
  new : ∀ a, N' a → N a ∨ H a = none
  pre : ∀ (k : Nat) a, c[k]? = some a → c'[k]? = some a
  newc : ∀ a, a ∈ c' → a ∈ c ∨ H a = none
  trk : ∀ a, H' a = none → H a = none
  tup : ∀ a vs, H a = some (.tup vs) → H' a = some (.tup vs)
/-- the end of a def: seen from its entry -/
structure Fin (mg : Glob) (E : En) (c' : List Addr) (st' : Sto) (H' : Hp) (v : V) (d : D) : Prop where
  wd : Wd mg (fun a => E.N0 a ∨ a ∈ c') c' H' st'
  rep : Rep mg (fun a => E.N0 a ∨ a ∈ c') c' H' v d
  base : ∀ a o, E.H0 a = some o → a ∉ c' → H' a = some o
  pre : ∀ (k : Nat) a, E.c0[k]? = some a → c'[k]? = some a
  newc : ∀ a, a ∈ c' → a ∈ E.c0 ∨ E.H0 a = none
def tS (mg : Glob) (f : SS) : TS := fun De σ H => ∃ (E : En) (N : Prot) (c : List Addr) (env : Env) (st : Sto) (o : Out) (st' : Sto), Rel mg E N c env st σ H ∧ f env st = some (o, st') ∧
  match o with
  | .nx env' => ∀ N' c' σ' H', Sx N c H N' c' H' → Rel mg E N' c' env' st' σ' H' → De.nx σ' H'
  | .bk env' => ∀ N' c' σ' H', Sx N c H N' c' H' → Rel mg E N' c' env' st' σ' H' → De.bk σ' H'
  | .ct env' => ∀ N' c' σ' H', Sx N c H N' c' H' → Rel mg E N' c' env' st' σ' H' → De.ct σ' H'
  | .rt d => ∀ c' H' v, Fin mg E c' st' H' v d → De.rt v H'
section
variable {mg : Glob} {N N' N'' : Prot} {c c' c'' : List Addr} {H H' H'' : Hp} {st st' : Sto} {E : En} {env : Env} {σ : L2.St}
theorem Sx.refl : Sx N c H N c H := ⟨fun _ _ h _ => h, fun _ h => .inl h, fun _ _ h => h, fun _ h => .inl h, fun _ h => h, fun _ _ h => h⟩
theorem Ex.sx (x : Ex N c H N' c' H') (W : Wd mg N c H st) (W' : Wd mg N' c' H' st') : Sx N c H N' c' H' := ⟨fun a o h n => x.keep a o h fun z => n (W.cn a z), x.new, x.pre, x.newc, fun a h => x.free W W' h, fun a vs h => x.keep a _ h (W.ntup h)⟩
theorem Sx.nn (x : Sx N c H N' c' H') {a : Addr} {o : HO} (h : H a = some o) (n : ¬ N a) : ¬ N' a := fun z => (x.new a z).elim n fun e => by rw [h] at e; cases e
theorem Sx.trans (x : Sx N c H N' c' H') (y : Sx N' c' H' N'' c'' H'') : Sx N c H N'' c'' H'' where
  keep := fun a o h n => y.keep a o (x.keep a o h n) (x.nn h n)
  new := fun a z => (y.new a z).elim (x.new a) fun e => .inr (x.trk a e)
  pre := fun k a h => y.pre k a (x.pre k a h)
  newc := fun a z => (y.newc a z).elim (x.newc a) fun e => .inr (x.trk a e)
  trk := fun a h => x.trk a (y.trk a h)
  tup := fun a vs h => y.tup a vs (x.tup a vs h)
theorem Sx.tr (x : Sx N c H N' c' H') : Tr N c H N' c' H' := ⟨x.keep, x.new, x.pre, x.tup⟩
/-- the end of a def, from data of the frame -/
theorem Rel.fin {v : V} {d : D} (R : Rel mg E N c env st σ H) (r : Rep mg N c H v d) : Fin mg E c st H v d := by
  have less : ∀ a, (E.N0 a ∨ a ∈ c) → N a := fun a z => z.elim (R.n0 a) (R.wd.cn a)
  exact ⟨R.wd.less less fun a z => .inr z, r.tr (Tr.less less), R.base, R.pre, R.newc⟩
end

/-! ### setting a slot -/
section
variable {mg : Glob} {N N' : Prot} {c c' : List Addr} {H H' : Hp} {st st' : Sto} {E : En} {env : Env} {σ : L2.St}
theorem get_set {α : Type} {l : List α} {i j : Nat} {x y : α} (h : (l.set i x)[j]? = some y) : (i = j ∧ y = x) ∨ (i ≠ j ∧ l[j]? = some y) := by
  by_cases e : i = j
  · subst e
    by_cases hl : i < l.length
    · rw [List.getElem?_set_self hl] at h
      cases h
      exact .inl ⟨rfl, rfl⟩
    · rw [List.getElem?_eq_none (by simpa using hl)] at h
      cases h
  · rw [List.getElem?_set_ne e] at h
    exact .inr ⟨e, h⟩
/-- a slot gets a new content that is not the frame's own -/
theorem Rel.set {i : Nat} {s : Sl} {v : V} (R : Rel mg E N c env st σ H) (hs : s.isOwn = false) (h : SlR mg N c H s (some v)) : Rel mg E N c (env.set i s) st (σ.set i (some v)) H where
  len := by rw [List.length_set, List.length_set]; exact R.len
  sl := fun j s' e => by
    rcases get_set e with ⟨rfl, rfl⟩ | ⟨ne, e⟩
    · have hl : i < σ.length := by
        rw [R.len]
        have := (List.getElem?_eq_some_iff.mp e).1
        simpa using this
      rw [List.getElem?_set_self hl]
      exact h
    · rw [List.getElem?_set_ne ne]
      exact R.sl j s' e
  own := fun j s' a e ho es => by
    rcases get_set e with ⟨rfl, rfl⟩ | ⟨ne, e⟩
    · rw [hs] at ho; cases ho
    · rw [List.getElem?_set_ne ne] at es
      exact R.own j s' a e ho es
  inj := fun j k s1 s2 a e1 o1 e2 o2 h1 h2 => by
    rcases get_set e1 with ⟨rfl, rfl⟩ | ⟨n1, e1⟩
    · rw [hs] at o1; cases o1
    · rcases get_set e2 with ⟨rfl, rfl⟩ | ⟨n2, e2⟩
      · rw [hs] at o2; cases o2
      · rw [List.getElem?_set_ne n1] at h1
        rw [List.getElem?_set_ne n2] at h2
        exact R.inj j k s1 s2 a e1 o1 e2 o2 h1 h2
  wd := R.wd
  n0 := R.n0
  t0 := R.t0
  base := R.base
  pre := R.pre
  newc := R.newc
  slf := fun j cn ns ds a e es => by
    rcases get_set e with ⟨rfl, rfl⟩ | ⟨ne, e⟩
    · cases hs
    · rw [List.getElem?_set_ne ne] at es
      exact R.slf j cn ns ds a e es
/-- a slot gets a list of the frame's own: a new one, protected -/
theorem Rel.setOwn {i : Nat} {p : Addr} {vs : List V} {xs : List D} (R : Rel mg E N c env st σ H) (hp : H p = some (.lst vs)) (np : N p) (nc : p ∉ c) (h0 : E.H0 p = none) (r : RepL mg N c H vs xs)
    (nw : ∀ (j : Nat) s, env[j]? = some s → s.isOwn = true → σ[j]? ≠ some (some (.ref p))) : Rel mg E N c (env.set i (.own xs)) st (σ.set i (some (.ref p))) H where
  len := by rw [List.length_set, List.length_set]; exact R.len
  sl := fun j s' e => by
    rcases get_set e with ⟨rfl, rfl⟩ | ⟨ne, e⟩
    · have hl : i < σ.length := by
        rw [R.len]
        have := (List.getElem?_eq_some_iff.mp e).1
        simpa using this
      rw [List.getElem?_set_self hl]
      exact ⟨p, vs, rfl, hp, r⟩
    · rw [List.getElem?_set_ne ne]
      exact R.sl j s' e
  own := fun j s' a e ho es => by
    rcases get_set e with ⟨rfl, rfl⟩ | ⟨ne, e⟩
    · have hl : i < σ.length := by
        rw [R.len]
        have := (List.getElem?_eq_some_iff.mp e).1
        simpa using this
      rw [List.getElem?_set_self hl] at es
      cases es
      exact ⟨np, nc, h0⟩
    · rw [List.getElem?_set_ne ne] at es
      exact R.own j s' a e ho es
  inj := fun j k s1 s2 a e1 o1 e2 o2 h1 h2 => by
    have hl : ∀ {s : Sl}, (env.set i (.own xs))[i]? = some s → i < σ.length := fun {s} e => by
      rw [R.len]
      have := (List.getElem?_eq_some_iff.mp e).1
      simpa using this
    rcases get_set e1 with ⟨rfl, rfl⟩ | ⟨n1, e1'⟩
    · rcases get_set e2 with ⟨rfl, rfl⟩ | ⟨n2, e2'⟩
      · rfl
      · rw [List.getElem?_set_self (hl e1)] at h1
        cases h1
        rw [List.getElem?_set_ne n2] at h2
        exact absurd h2 (nw k s2 e2' o2)
    · rcases get_set e2 with ⟨rfl, rfl⟩ | ⟨n2, e2'⟩
      · rw [List.getElem?_set_self (hl e2)] at h2
        cases h2
        rw [List.getElem?_set_ne n1] at h1
        exact absurd h1 (nw j s1 e1' o1)
      · rw [List.getElem?_set_ne n1] at h1
        rw [List.getElem?_set_ne n2] at h2
        exact R.inj j k s1 s2 a e1' o1 e2' o2 h1 h2
  wd := R.wd
  n0 := R.n0
  t0 := R.t0
  base := R.base
  pre := R.pre
  newc := R.newc
  slf := fun j cn ns ds a e es => by
    rcases get_set e with ⟨rfl, e2⟩ | ⟨ne, e⟩
    · cases e2
    · rw [List.getElem?_set_ne ne] at es
      exact R.slf j cn ns ds a e es
/-- an address that was new ahead of a step is new at the entry, and no slot's own -/
theorem Rel.fresh0 (R : Rel mg E N c env st σ H) {p : Addr} (h : H p = none) : E.H0 p = none := by
  cases q : E.H0 p with
  | none => rfl
  | some o =>
    have : p ∉ c := R.wd.cnone h
    rw [R.base p o q this] at h; cases h
theorem Rel.notOwn (R : Rel mg E N c env st σ H) {p : Addr} (h : H p = none) : ∀ (j : Nat) s, env[j]? = some s → s.isOwn = true → σ[j]? ≠ some (some (.ref p)) := fun j s e ho z => by
  obtain ⟨n, _⟩ := R.own j s p e ho z
  exact R.wd.trk p n h
theorem Rel.ownNT (R : Rel mg E N c env st σ H) {i : Nat} {s : Sl} {a : Addr} (he : env[i]? = some s) (ho : s.isOwn = true) (hs : σ[i]? = some (some (.ref a))) : ∀ us, H a ≠ some (.tup us) := fun us e => by
  have q := R.sl i s he
  rw [hs] at q
  cases s with
  | un => cases ho
  | val d => cases ho
  | own xs => obtain ⟨b, vs, ev, hb, _⟩ := q; cases ev; rw [e] at hb; cases hb
  | ownI cn ns ds => obtain ⟨b, C, dx, fs, ev, hc, hb, _⟩ := q; cases ev; rw [e] at hb; cases hb
  | ownD ks ds => obtain ⟨b, kvs, ev, hb, _⟩ := q; cases ev; rw [e] at hb; cases hb
  | ownT ks ds => obtain ⟨b, kvs, ev, hb, _⟩ := q; cases ev; rw [e] at hb; cases hb
/-- a list of the frame's own changes -/
theorem Rel.write {i : Nat} {a : Addr} {vs vs' : List V} {xs xs' : List D} (R : Rel mg E N c env st σ H) (he : env[i]? = some (.own xs)) (hs : σ[i]? = some (some (.ref a))) (r : RepL mg N c H vs' xs') :
    Rel mg E N c (env.set i (.own xs')) st σ (upd H a (.lst vs')) ∧ Sx N c H N c (upd H a (.lst vs')) := by
  obtain ⟨na, nc, n0⟩ := R.own i _ a he rfl hs
  obtain ⟨b, us, eb, hb, rb⟩ := R.sl i _ he
  rw [hs] at eb
  cases eb
  have keep : ∀ b o, H b = some o → ¬ N b → (upd H a (.lst vs')) b = some o := fun b o e n => by
    rw [upd_ne (show b ≠ a from fun z => n (z ▸ na))]; exact e
  have tk : ∀ b, (upd H a (.lst vs')) b = none → H b = none := fun b e => by
    by_cases q : b = a
    · rw [q, upd_same] at e; cases e
    · rw [upd_ne q] at e; exact e
  have sx : Sx N c H N c (upd H a (.lst vs')) := ⟨keep, fun _ z => .inl z, fun _ _ z => z, fun _ z => .inl z, tk, fun b us e => by rw [upd_ne (fun z => R.ownNT he rfl hs us (by rw [← z]; exact e))]; exact e⟩
  have il : i < σ.length := (List.getElem?_eq_some_iff.mp hs).1
  have ne_of_own : ∀ (j : Nat) s b, i ≠ j → env[j]? = some s → s.isOwn = true → σ[j]? = some (some (.ref b)) → b ≠ a := fun j s b ne e ho z q => by
    subst q
    exact ne (R.inj i j _ s b he rfl e ho hs z)
  refine ⟨⟨by rw [List.length_set]; exact R.len, fun j s' e => ?_, fun j s' b e ho es => ?_, fun j k s1 s2 b e1 o1 e2 o2 h1 h2 => ?_, ?_, R.n0, R.t0, fun b o e n => ?_, R.pre, R.newc, fun j cn ns ds b e es => (get_set e).elim (fun z => nomatch z.2) fun z => R.slf j cn ns ds b z.2 es⟩, sx⟩
  · rcases get_set e with ⟨rfl, rfl⟩ | ⟨ne, e⟩
    · rw [hs]
      exact ⟨a, vs', rfl, upd_same, r.tr sx.tr⟩
    · have q := R.sl j s' e
      cases s' with
      | un => trivial
      | val d => obtain ⟨v, ev, rv⟩ := q; exact ⟨v, ev, rv.tr sx.tr⟩
      | own ys => obtain ⟨b, us', ev, hb', rv⟩ := q; exact ⟨b, us', ev, by rw [upd_ne (ne_of_own j _ b ne e rfl (join_some ev))]; exact hb', rv.tr sx.tr⟩
      | ownI cn ns ds => obtain ⟨b, C, dx, fs, ev, hc, hb', hn, rv⟩ := q; exact ⟨b, C, dx, fs, ev, hc, by rw [upd_ne (ne_of_own j _ b ne e rfl (join_some ev))]; exact hb', hn, rv.tr sx.tr⟩
      | ownD ks ds => obtain ⟨b, kvs, ev, hb', hn, rv⟩ := q; exact ⟨b, kvs, ev, by rw [upd_ne (ne_of_own j _ b ne e rfl (join_some ev))]; exact hb', hn, rv.tr sx.tr⟩
      | ownT ks ds => obtain ⟨b, kvs, ev, hb', hn, rv⟩ := q; exact ⟨b, kvs, ev, by rw [upd_ne (ne_of_own j _ b ne e rfl (join_some ev))]; exact hb', hn, rv.tr sx.tr⟩
  · rcases get_set e with ⟨rfl, rfl⟩ | ⟨ne, e⟩
    · rw [hs] at es; cases es; exact ⟨na, nc, n0⟩
    · exact R.own j s' b e ho es
  · rcases get_set e1 with ⟨rfl, rfl⟩ | ⟨n1, e1⟩
    · rcases get_set e2 with ⟨rfl, rfl⟩ | ⟨n2, e2⟩
      · rfl
      · exact R.inj _ k _ s2 b he rfl e2 o2 h1 h2
    · rcases get_set e2 with ⟨rfl, rfl⟩ | ⟨n2, e2⟩
      · exact R.inj j _ s1 _ b e1 o1 he rfl h1 h2
      · exact R.inj j k s1 s2 b e1 o1 e2 o2 h1 h2
  · exact ⟨R.wd.len, fun k b ys h1 h2 => by
      obtain ⟨us', hb', rr⟩ := R.wd.sto k b ys h1 h2
      exact ⟨us', by rw [upd_ne (show b ≠ a from fun z => nc (z ▸ List.mem_of_getElem? h1))]; exact hb', rr.tr sx.tr⟩, R.wd.cn, R.wd.nd, fun b z e => R.wd.trk b z (tk b e)⟩
  · have : b ≠ a := fun z => by rw [z, n0] at e; cases e
    rw [upd_ne this]
    exact R.base b o e n
/-- a cell changes -/
theorem Rel.writeCO {k : Nat} {a : Addr} {o' : HO} {xs' : List D} (R : Rel mg E N c env st σ H) (hk : c[k]? = some a) (r : CRep mg N c H o' xs') :
    Rel mg E N c env (st.set k xs') σ (upd H a o') ∧ Sx N c H N c (upd H a o') := by
  have mc : a ∈ c := List.mem_of_getElem? hk
  have na : N a := R.wd.cn a mc
  have keep : ∀ b o, H b = some o → ¬ N b → (upd H a o') b = some o := fun b o e n => by
    rw [upd_ne (show b ≠ a from fun z => n (z ▸ na))]; exact e
  have tk : ∀ b, (upd H a o') b = none → H b = none := fun b e => by
    by_cases q : b = a
    · rw [q, upd_same] at e; cases e
    · rw [upd_ne q] at e; exact e
  have sx : Sx N c H N c (upd H a o') := ⟨keep, fun _ z => .inl z, fun _ _ z => z, fun _ z => .inl z, tk, fun b us e => by rw [upd_ne (fun z => R.wd.ntup (by rw [← z]; exact e) mc)]; exact e⟩
  have ne_of_own : ∀ (j : Nat) s b, env[j]? = some s → s.isOwn = true → σ[j]? = some (some (.ref b)) → b ≠ a := fun j s b e ho z q => by
    subst q
    exact (R.own j s b e ho z).2.1 mc
  refine ⟨⟨R.len, fun j s' e => ?_, R.own, R.inj, ?_, R.n0, R.t0, fun b o e n => ?_, R.pre, R.newc, R.slf⟩, sx⟩
  · have q := R.sl j s' e
    cases s' with
    | un => trivial
    | val d => obtain ⟨v, ev, rv⟩ := q; exact ⟨v, ev, rv.tr sx.tr⟩
    | own ys => obtain ⟨b, us', ev, hb', rv⟩ := q; exact ⟨b, us', ev, by rw [upd_ne (ne_of_own j _ b e rfl (join_some ev))]; exact hb', rv.tr sx.tr⟩
    | ownI cn ns ds => obtain ⟨b, C, dx, fs, ev, hc, hb', hn, rv⟩ := q; exact ⟨b, C, dx, fs, ev, hc, by rw [upd_ne (ne_of_own j _ b e rfl (join_some ev))]; exact hb', hn, rv.tr sx.tr⟩
    | ownD ks ds => obtain ⟨b, kvs, ev, hb', hn, rv⟩ := q; exact ⟨b, kvs, ev, by rw [upd_ne (ne_of_own j _ b e rfl (join_some ev))]; exact hb', hn, rv.tr sx.tr⟩
    | ownT ks ds => obtain ⟨b, kvs, ev, hb', hn, rv⟩ := q; exact ⟨b, kvs, ev, by rw [upd_ne (ne_of_own j _ b e rfl (join_some ev))]; exact hb', hn, rv.tr sx.tr⟩
  · refine ⟨by rw [List.length_set]; exact R.wd.len, fun j b ys h1 h2 => ?_, R.wd.cn, R.wd.nd, fun b z e => R.wd.trk b z (tk b e)⟩
    rcases get_set h2 with ⟨rfl, rfl⟩ | ⟨ne, h2⟩
    · rw [hk] at h1
      cases h1
      exact ⟨_, upd_same, r.tr sx.tr⟩
    · obtain ⟨us', hb', rr⟩ := R.wd.sto j b ys h1 h2
      have : b ≠ a := fun z => by
        subst z
        obtain ⟨i1, j1⟩ := List.getElem?_eq_some_iff.mp hk
        obtain ⟨i2, j2⟩ := List.getElem?_eq_some_iff.mp h1
        exact ne ((List.getElem_inj R.wd.nd).mp (j1.trans j2.symm))
      exact ⟨us', by rw [upd_ne this]; exact hb', rr.tr sx.tr⟩
  · have : b ≠ a := fun z => n (z ▸ mc)
    rw [upd_ne this]
    exact R.base b o e n
theorem Rel.writeC {k : Nat} {a : Addr} {vs' : List V} {xs' : List D} (R : Rel mg E N c env st σ H) (hk : c[k]? = some a) (r : RepL mg N c H vs' xs') :
    Rel mg E N c env (st.set k xs') σ (upd H a (.lst vs')) ∧ Sx N c H N c (upd H a (.lst vs')) := R.writeCO hk (.l r)
/-- a list of the frame's own is data from now on -/
def frz (i : Nat) (env : Env) : Env := match env[i]? with
  | some (.own xs) => env.set i (.val (.lst xs))
  | some (.ownD ks xs) => env.set i (.val (.dic ks xs))
  | _ => env
theorem Rel.frz {i : Nat} (R : Rel mg E N c env st σ H) : ∃ N', Rel mg E N' c (LW.frz i env) st σ H ∧ Sx N c H N' c H := by
  unfold LW.frz
  split
  · rename_i xs he
    obtain ⟨a, vs, es, ha, r⟩ := R.sl i _ he
    have es := join_some es
    obtain ⟨na, nc, n0⟩ := R.own i _ a he rfl es
    have less : ∀ b, (N b ∧ b ≠ a) → N b := fun b z => z.1
    have tr : Tr N c H (fun b => N b ∧ b ≠ a) c H := Tr.less less
    have il : i < env.length := (List.getElem?_eq_some_iff.mp he).1
    refine ⟨fun b => N b ∧ b ≠ a, ⟨by rw [List.length_set]; exact R.len, fun j s' e => ?_, fun j s' b e ho z => ?_, fun j k s1 s2 b e1 o1 e2 o2 h1 h2 => ?_, R.wd.less less fun b z => ⟨R.wd.cn b z, fun q => nc (q ▸ z)⟩, fun b z => ⟨R.n0 b z, fun q => R.t0 b z (by rw [q]; exact n0)⟩, R.t0, R.base, R.pre, R.newc, fun j cn ns ds b e z => (get_set e).elim (fun q => nomatch q.2) fun q => R.slf j cn ns ds b q.2 z⟩, ⟨fun _ _ e _ => e, fun b z => .inl z.1, fun _ _ z => z, fun _ z => .inl z, fun _ z => z, fun _ _ z => z⟩⟩
    · rcases get_set e with ⟨rfl, rfl⟩ | ⟨ne, e⟩
      · rw [es]
        exact ⟨.ref a, rfl, .lst ha (fun z => z.2 rfl) (r.tr tr)⟩
      · have q := R.sl j s' e
        cases s' with
        | un => trivial
        | val d => obtain ⟨v, ev, rv⟩ := q; exact ⟨v, ev, rv.tr tr⟩
        | own ys => obtain ⟨b, us', ev, hb', rv⟩ := q; exact ⟨b, us', ev, hb', rv.tr tr⟩
        | ownI cn ns ds => obtain ⟨b, C, dx, fs, ev, hc, hb', hn, rv⟩ := q; exact ⟨b, C, dx, fs, ev, hc, hb', hn, rv.tr tr⟩
        | ownD ks ds => obtain ⟨b, kvs, ev, hb', hn, rv⟩ := q; exact ⟨b, kvs, ev, hb', hn, rv.tr tr⟩
        | ownT ks ds => obtain ⟨b, kvs, ev, hb', hn, rv⟩ := q; exact ⟨b, kvs, ev, hb', hn, rv.tr tr⟩
    · rcases get_set e with ⟨rfl, rfl⟩ | ⟨ne, e⟩
      · cases ho
      · obtain ⟨z1, z2, z3⟩ := R.own j s' b e ho z
        refine ⟨⟨z1, fun q => ?_⟩, z2, z3⟩
        subst q
        exact ne (R.inj i j _ s' b he rfl e ho es z)
    · rcases get_set e1 with ⟨rfl, rfl⟩ | ⟨n1, e1⟩
      · cases o1
      · rcases get_set e2 with ⟨rfl, rfl⟩ | ⟨n2, e2⟩
        · cases o2
        · exact R.inj j k s1 s2 b e1 o1 e2 o2 h1 h2
  · rename_i ks xs he
    obtain ⟨a, kvs, es, ha, hm, r⟩ := R.sl i _ he
    have es := join_some es
    obtain ⟨na, nc, n0⟩ := R.own i _ a he rfl es
    have less : ∀ b, (N b ∧ b ≠ a) → N b := fun b z => z.1
    have tr : Tr N c H (fun b => N b ∧ b ≠ a) c H := Tr.less less
    have il : i < env.length := (List.getElem?_eq_some_iff.mp he).1
    refine ⟨fun b => N b ∧ b ≠ a, ⟨by rw [List.length_set]; exact R.len, fun j s' e => ?_, fun j s' b e ho z => ?_, fun j k s1 s2 b e1 o1 e2 o2 h1 h2 => ?_, R.wd.less less fun b z => ⟨R.wd.cn b z, fun q => nc (q ▸ z)⟩, fun b z => ⟨R.n0 b z, fun q => R.t0 b z (by rw [q]; exact n0)⟩, R.t0, R.base, R.pre, R.newc, fun j cn ns ds b e z => (get_set e).elim (fun q => nomatch q.2) fun q => R.slf j cn ns ds b q.2 z⟩, ⟨fun _ _ e _ => e, fun b z => .inl z.1, fun _ _ z => z, fun _ z => .inl z, fun _ z => z, fun _ _ z => z⟩⟩
    · rcases get_set e with ⟨rfl, rfl⟩ | ⟨ne, e⟩
      · rw [es]
        exact ⟨.ref a, rfl, .dic ha (fun z => z.2 rfl) hm (r.tr tr)⟩
      · have q := R.sl j s' e
        cases s' with
        | un => trivial
        | val d => obtain ⟨v, ev, rv⟩ := q; exact ⟨v, ev, rv.tr tr⟩
        | own ys => obtain ⟨b, us', ev, hb', rv⟩ := q; exact ⟨b, us', ev, hb', rv.tr tr⟩
        | ownI cn ns ds => obtain ⟨b, C, dx, fs, ev, hc, hb', hn, rv⟩ := q; exact ⟨b, C, dx, fs, ev, hc, hb', hn, rv.tr tr⟩
        | ownD ks ds => obtain ⟨b, kvs, ev, hb', hn, rv⟩ := q; exact ⟨b, kvs, ev, hb', hn, rv.tr tr⟩
        | ownT ks ds => obtain ⟨b, kvs, ev, hb', hn, rv⟩ := q; exact ⟨b, kvs, ev, hb', hn, rv.tr tr⟩
    · rcases get_set e with ⟨rfl, rfl⟩ | ⟨ne, e⟩
      · cases ho
      · obtain ⟨z1, z2, z3⟩ := R.own j s' b e ho z
        refine ⟨⟨z1, fun q => ?_⟩, z2, z3⟩
        subst q
        exact ne (R.inj i j _ s' b he rfl e ho es z)
    · rcases get_set e1 with ⟨rfl, rfl⟩ | ⟨n1, e1⟩
      · cases o1
      · rcases get_set e2 with ⟨rfl, rfl⟩ | ⟨n2, e2⟩
        · cases o2
        · exact R.inj j k s1 s2 b e1 o1 e2 o2 h1 h2
  · exact ⟨N, R, Sx.refl⟩
end
end LW

/-! LwI: statements by plain functions. -/
namespace LW
open PySem L2 PyProof.Rows

def PostS (mg : Glob) (E : En) (N : Prot) (c : List Addr) (H : Hp) (De : Ends) (o : Out) (st' : Sto) : Prop := match o with
  | .nx env' => ∀ N' c' σ' H', Sx N c H N' c' H' → Rel mg E N' c' env' st' σ' H' → De.nx σ' H'
  | .bk env' => ∀ N' c' σ' H', Sx N c H N' c' H' → Rel mg E N' c' env' st' σ' H' → De.bk σ' H'
  | .ct env' => ∀ N' c' σ' H', Sx N c H N' c' H' → Rel mg E N' c' env' st' σ' H' → De.ct σ' H'
  | .rt d => ∀ c' H' v, Fin mg E c' st' H' v d → De.rt v H'
theorem tS_def {mg : Glob} {f : SS} {De : Ends} {σ : L2.St} {H : Hp} : tS mg f De σ H ↔ ∃ (E : En) (N : Prot) (c : List Addr) (env : Env) (st : Sto) (o : Out) (st' : Sto), Rel mg E N c env st σ H ∧ f env st = some (o, st') ∧ PostS mg E N c H De o st' := Iff.rfl
section
variable {mg : Glob} {E : En} {N N' : Prot} {c c' : List Addr} {H H' : Hp} {De : Ends} {o : Out} {st st' : Sto} {env env' : Env} {σ : L2.St}
theorem PostS.from (x : Sx N c H N' c' H') (p : PostS mg E N c H De o st') : PostS mg E N' c' H' De o st' := by
  cases o with
  | nx e => exact fun N2 c2 σ2 H2 x2 R2 => p N2 c2 σ2 H2 (x.trans x2) R2
  | bk e => exact fun N2 c2 σ2 H2 x2 R2 => p N2 c2 σ2 H2 (x.trans x2) R2
  | ct e => exact fun N2 c2 σ2 H2 x2 R2 => p N2 c2 σ2 H2 (x.trans x2) R2
  | rt d => exact p
end
def sNil : SS := fun env st => some (.nx env, st)
def sSeq (f g : SS) : SS := fun env st => match f env st with
  | some (.nx e, s1) => g e s1
  | some (.rt d, s1) => some (.rt d, s1)
  | some (.bk e, s1) => some (.bk e, s1)
  | some (.ct e, s1) => some (.ct e, s1)
  | none => none
def sRet (f : SE) : SS := fun env st => match f env st with
  | some (d, s1) => some (.rt d, s1)
  | none => none
def sDrop (f : SE) : SS := fun env st => match f env st with
  | some (_, s1) => some (.nx env, s1)
  | none => none
def sSet (i : Nat) (f : SE) : SS := fun env st => match f env st with
  | some (d, s1) => some (.nx (env.set i (.val d)), s1)
  | none => none
def sOwn (i : Nat) (f : Fx (List D)) : SS := fun env st => match f env st with
  | some (xs, s1) => some (.nx (env.set i (.own xs)), s1)
  | none => none
def sIf (t : SB) (f g : SS) : SS := fun env st => match t env st with
  | some (true, s1) => f env s1
  | some (false, s1) => g env s1
  | none => none
/-- ahead of the rest a list of the frame's own becomes data -/
def sFrz (i : Nat) (f : SS) : SS := fun env st => f (frz i env) st
section
variable {mg : Glob} {X : Cx} {s : Stmt} {rest : List Stmt} {e : Expr} {pos : Pos} {f g : SS} {fe : SE} {fl : Fx (List D)} {t : SB}
theorem s_nil : PSs X [] (tS mg sNil) := pss_weak pss_nil fun De σ H h => by
  obtain ⟨E, N, c, env, st, o, st', R, q, p⟩ := tS_def.mp h
  cases q
  exact p N c σ H Sx.refl R
theorem s_cons (h1 : PS X s (tS mg f)) (h2 : PSs X rest (tS mg g)) : PSs X (s :: rest) (tS mg (sSeq f g)) := pss_weak (pss_cons h1 h2) fun De σ H h => by
  obtain ⟨E, N, c, env, st, o, st', R, q, p⟩ := tS_def.mp h
  unfold sSeq at q
  split at q
  · rename_i e1 s1 q1
    refine tS_def.mpr ⟨E, N, c, env, st, .nx e1, s1, R, q1, fun N1 c1 σ1 H1 x1 R1 => ?_⟩
    exact tS_def.mpr ⟨E, N1, c1, e1, s1, o, st', R1, q, p.from x1⟩
  · rename_i d s1 q1
    cases q
    exact tS_def.mpr ⟨E, N, c, env, st, _, _, R, q1, p⟩
  · rename_i d s1 q1
    cases q
    exact tS_def.mpr ⟨E, N, c, env, st, _, _, R, q1, p⟩
  · rename_i d s1 q1
    cases q
    exact tS_def.mpr ⟨E, N, c, env, st, _, _, R, q1, p⟩
  · cases q
theorem s_one (h1 : PS X s (tS mg f)) : PSs X [s] (tS mg f) := pss_one h1
/-- code that is never come to: none -/
def sNever : SS := fun _ _ => none
theorem s_never : PS X s (tS mg sNever) := ps_weak ps_never fun De σ H h => by
  obtain ⟨E, N, c, env, st, o, st', R, q, p⟩ := tS_def.mp h
  cases q
theorem s_ret (he : PE X e (tE mg fe)) : PS X (.Return (some e) pos) (tS mg (sRet fe)) := ps_weak (ps_ret he) fun De σ H h => by
  obtain ⟨E, N, c, env, st, o, st', R, q, p⟩ := tS_def.mp h
  unfold sRet at q
  split at q
  · rename_i d s1 q1
    cases q
    exact ⟨E, N, c, env, st, _, _, R, q1, fun v N' c' H' x W r => p c' H' v ((R.ex x W).fin r)⟩
  · cases q
theorem s_drop (he : PE X e (tP mg fe)) (hs : swapsWith e none pos.line X.env = pure false := by rfl) : PS X (.Expr e pos) (tS mg (sDrop fe)) := ps_weak (ps_expr he hs) fun De σ H h => by
  obtain ⟨E, N, c, env, st, o, st', R, q, p⟩ := tS_def.mp h
  unfold sDrop at q
  split at q
  · rename_i d s1 q1
    cases q
    exact ⟨E, N, c, env, st, _, _, R, q1, fun v N' c' H' x W r => p N' c' σ H' (x.sx R.wd W) (R.ex x W)⟩
  · cases q
theorem s_set {i : Nat} {x : Str} {pos' : Pos} (hN : X.N.Nodup) (he : PE X e (tE mg fe)) (hi : X.N[i]? = some x := by rfl) (hx : Loc X.env.scope x := by first | exact Or.inl rfl | exact Or.inr rfl) (hs : swapsWith e (some (.Name x pos')) pos.line X.env = pure false := by rfl) (hf : X.fn x = true ∨ X.env.scope.names.lookup x = some .local := by first | exact .inl rfl | exact .inr rfl) :
    PS X (.Assign [.Name x pos'] e pos) (tS mg (sSet i fe)) := ps_weak (ps_set hN hi hx he hs hf) fun De σ H h => by
  obtain ⟨E, N, c, env, st, o, st', R, q, p⟩ := tS_def.mp h
  unfold sSet at q
  split at q
  · rename_i d s1 q1
    cases q
    exact ⟨E, N, c, env, st, _, _, R, q1, fun v N' c' H' x W r => p N' c' _ H' (x.sx R.wd W) ((R.ex x W).set rfl ⟨v, rfl, r⟩)⟩
  · cases q
/-- name = a new list of the frame's own -/
theorem r_own {i : Nat} {De : Ends} {σ : L2.St} {H : Hp} (h : tS mg (sOwn i fl) De σ H) : tAsg (tL mg fl) (gName i) De σ H := by
  obtain ⟨E, N, c, env, st, o, st', R, q, p⟩ := tS_def.mp h
  unfold sOwn at q
  split at q
  · rename_i xs s1 q1
    cases q
    refine ⟨E, N, c, env, st, _, _, R, q1, fun v N' c' H' x W r => ?_⟩
    obtain ⟨a, vs, rfl, hn, na, nc, ha, rr⟩ := r
    exact p N' c' _ H' (x.sx R.wd W) ((R.ex x W).setOwn ha na nc (R.fresh0 hn) rr (R.notOwn hn))
  · cases q
theorem s_own {i : Nat} {x : Str} {pos' : Pos} (hN : X.N.Nodup) (he : PE X e (tL mg fl)) (hi : X.N[i]? = some x := by rfl) (hx : Loc X.env.scope x := by first | exact Or.inl rfl | exact Or.inr rfl) (hs : swapsWith e (some (.Name x pos')) pos.line X.env = pure false := by rfl) (hf : X.fn x = true ∨ X.env.scope.names.lookup x = some .local := by first | exact .inl rfl | exact .inr rfl) :
    PS X (.Assign [.Name x pos'] e pos) (tS mg (sOwn i fl)) := ps_weak (ps_set hN hi hx he hs hf) fun De σ H h => r_own h
theorem s_if {c : Expr} {a b : List Stmt} (hc : PT X c (tT mg t)) (ha : PSs X a (tS mg f)) (hb : PSs X b (tS mg g)) : PS X (.If c a b pos) (tS mg (sIf t f g)) := ps_weak (ps_if hc ha hb) fun De σ H h => by
  obtain ⟨E, N, c, env, st, o, st', R, q, p⟩ := tS_def.mp h
  unfold sIf at q
  split at q
  · rename_i s1 q1
    exact ⟨E, N, c, env, st, true, s1, R, q1, fun N1 c1 H1 x1 W1 => iteT (tS_def.mpr ⟨E, N1, c1, env, s1, o, st', R.ex x1 W1, q, p.from (x1.sx R.wd W1)⟩)⟩
  · rename_i s1 q1
    exact ⟨E, N, c, env, st, false, s1, R, q1, fun N1 c1 H1 x1 W1 => iteF (tS_def.mpr ⟨E, N1, c1, env, s1, o, st', R.ex x1 W1, q, p.from (x1.sx R.wd W1)⟩)⟩
  · cases q
theorem r_frz {i : Nat} {De : Ends} {σ : L2.St} {H : Hp} (h : tS mg (sFrz i f) De σ H) : tS mg f De σ H := by
  obtain ⟨E, N, c, env, st, o, st', R, q, p⟩ := tS_def.mp h
  obtain ⟨N', R', x⟩ := R.frz (i := i)
  exact tS_def.mpr ⟨E, N', c, frz i env, st, o, st', R', q, p.from x⟩
theorem s_frz (i : Nat) (h : PS X s (tS mg f)) : PS X s (tS mg (sFrz i f)) := ps_weak h fun _ _ _ z => r_frz z
end

/-! ### lists of the frame's own and cells, changed -/
def sApp (i : Nat) (f : SE) : SS := fun env st => match f env st with
  | some (d, s1) => match env[i]? with
    | some (.own xs) => if xs.length < 1000000 then some (.nx (env.set i (.own (xs ++ [d]))), s1) else none
    | _ => none
  | none => none
def sAppC (fo f : SE) : SS := fun env st => match fo env st with
  | some (.cell k, s1) => match lcG s1 k with
    | some _ => match f env s1 with
      | some (d, s2) => match lcG s2 k with
        | some xs => if xs.length < 1000000 then some (.nx env, s2.set k (xs ++ [d])) else none
        | none => none
      | none => none
    | none => none
  | _ => none
def sPutC (fo fj fe : SE) : SS := fun env st => match fe env st with
  | some (d, s1) => match fo env s1 with
    | some (.cell k, s2) => match fj env s2 with
      | some (.int j, s3) => match lcG s3 k with
        | some xs => match ixN xs.length j with
          | some n => some (.nx env, s3.set k (xs.set n d))
          | none => none
        | none => none
      | _ => none
    | _ => none
  | none => none
theorem sz7 {n : Nat} (h : n < 1000000) : n < sizeLine := Nat.lt_trans h (by decide)
section
variable {mg : Glob} {X : Cx} {e o ej : Expr} {pos apos cpos tpos : Pos} {fe fo fj : SE}
theorem s_app {i : Nat} {x : Str} {p1 : Pos} (he : PE X e (tE mg fe)) (hN : X.N[i]? = some x := by rfl) (hv : Vis X.env.scope x := by first | exact Or.inl rfl | exact Or.inr (Or.inl rfl) | exact Or.inr (Or.inr rfl)) (hd : (x == ("__debug__" : Str)) = false := by decide)
    (hcd : (x == ("__classdict__" : Str)) = false := by decide) (hs : swapsWith (.Call (.Attribute (.Name x p1) "append" apos) [e] [] cpos) none pos.line X.env = pure false := by rfl)
    (hbase : attributeBase (.Name x p1) "append" X.env (eval (.Name x p1) X.env) = eval (.Name x p1) X.env := by rfl)
    (hfew : ((backTo cpos (starEach [e] X.env)).all (fun x => !x.1) && (backToKw cpos (keywordEach [] X.env)).all (fun x => x.1.isSome)
      && decide ([e].length + ([] : List Keyword).length + (if ([] : List Keyword).isEmpty then 0 else 1) < 30)) = true := by rfl)
    (hline : (apos.endLine == cpos.line) = true := by rfl) (hst : starEach [e] X.env = (false, eval e X.env) :: starEach [] X.env := by rfl) (hplain : (backTo cpos (starEach [] X.env)).any (·.1) = false := by rfl) :
    PS X (.Expr (.Call (.Attribute (.Name x p1) "append" apos) [e] [] cpos) pos) (tS mg (sApp i fe)) :=
  ps_weak (ps_expr (pe_bm PySem.F.plainAttrs_list PySem.F.slot_list_append PySem.F.type_list_append mt_append (pe_var hN hv hd hcd) (pa_cons he pa_nil hst) hbase hfew hline hst hplain) hs) fun De σ H h => by
    obtain ⟨E, N, c, env, st, o, st', R, q, p⟩ := tS_def.mp h
    unfold sApp at q
    split at q
    · rename_i d s1 q1
      split at q
      · rename_i xs hx
        split at q
        · rename_i hl
          cases q
          obtain ⟨a, vs, ea, ha, rr⟩ := R.sl i _ hx
          have ea := join_some ea
          refine ⟨.ref a, ea, .inl ⟨rfl, vs, SqL.of ha⟩, E, N, c, env, st, d, _, R, q1, fun v N1 c1 H1 x1 W1 r1 => ?_⟩
          have R1 := R.ex x1 W1
          obtain ⟨b, us, eb, hb, r2⟩ := R1.sl i _ hx
          rw [ea] at eb
          cases eb
          have wr := R1.write (vs := us) hx ea (r2.append (.cons r1 .nil))
          exact ⟨a, us, v, rfl, rfl, hb, by rw [r2.length]; exact sz7 hl, p N1 c1 σ _ ((x1.sx R.wd W1).trans wr.2) wr.1⟩
        · cases q
      · cases q
    · cases q
theorem s_appC (ho : PE X o (tE mg fo)) (he : PE X e (tE mg fe)) (hs : swapsWith (.Call (.Attribute o "append" apos) [e] [] cpos) none pos.line X.env = pure false := by rfl)
    (hbase : attributeBase o "append" X.env (eval o X.env) = eval o X.env := by rfl)
    (hfew : ((backTo cpos (starEach [e] X.env)).all (fun x => !x.1) && (backToKw cpos (keywordEach [] X.env)).all (fun x => x.1.isSome)
      && decide ([e].length + ([] : List Keyword).length + (if ([] : List Keyword).isEmpty then 0 else 1) < 30)) = true := by rfl)
    (hline : (apos.endLine == cpos.line) = true := by rfl) (hst : starEach [e] X.env = (false, eval e X.env) :: starEach [] X.env := by rfl) (hplain : (backTo cpos (starEach [] X.env)).any (·.1) = false := by rfl) :
    PS X (.Expr (.Call (.Attribute o "append" apos) [e] [] cpos) pos) (tS mg (sAppC fo fe)) :=
  ps_weak (ps_expr (pe_bm PySem.F.plainAttrs_list PySem.F.slot_list_append PySem.F.type_list_append mt_append ho (pa_cons he pa_nil hst) hbase hfew hline hst hplain) hs) fun De σ H h => by
    obtain ⟨E, N, c, env, st, o, st', R, q, p⟩ := tS_def.mp h
    unfold sAppC at q
    split at q
    · rename_i k s1 q1
      split at q
      · rename_i ys hy
        split at q
        · rename_i d s2 q2
          split at q
          · rename_i xs hx
            split at q
            · rename_i hl
              cases q
              refine ⟨E, N, c, env, st, _, s1, R, q1, fun v N1 c1 H1 x1 W1 r1 => ?_⟩
              cases r1 with
              | cell hk =>
                rename_i a
                obtain ⟨vs, ha, rr⟩ := W1.lstC hk hy
                refine ⟨.inl ⟨rfl, vs, SqL.of ha⟩, E, N1, c1, env, s1, d, s2, R.ex x1 W1, q2, fun w N2 c2 H2 x2 W2 r2 => ?_⟩
                have x12 := x1.trans x2 R.wd
                have R2 := R.ex x12 W2
                have hk2 := x2.pre k a hk
                obtain ⟨us, hb, r3⟩ := W2.lstC hk2 hx
                have wr := R2.writeC hk2 (r3.append (.cons r2 .nil))
                exact ⟨a, us, w, rfl, rfl, hb, by rw [r3.length]; exact sz7 hl, p N2 c2 σ _ ((x12.sx R.wd W2).trans wr.2) wr.1⟩
            · cases q
          · cases q
        · cases q
      · cases q
    · cases q
theorem s_putC (he : PE X e (tE mg fe)) (ho : PE X o (tE mg fo)) (hj : PE X ej (tP mg fj)) (ha : ∀ v, assign (.Subscript o ej tpos) X.env v = (do
      let ov ← holding [v] (eval o X.env)
      let iv ← holding [v, ov] (eval ej X.env)
      standAt tpos
      holding [v, ov, iv] (setItem ov iv v)
      release [v, ov, iv] []) := by intro _; rfl) (hs : swapsWithSole [.Subscript o ej tpos] e pos.line X.env = pure false := by rfl) (hw : swappedStores [.Subscript o ej tpos] e X.env = pure none := by rfl)
    (h1 : (assignEach [.Subscript o ej tpos] X.env).map (·.2) = [assign (.Subscript o ej tpos) X.env] := by rfl) : PS X (.Assign [.Subscript o ej tpos] e pos) (tS mg (sPutC fo fj fe)) :=
  ps_weak (ps_asg he (pg_sub ho hj set_list ha) hs hw h1) fun De σ H h => by
    obtain ⟨E, N, c, env, st, o, st', R, q, p⟩ := tS_def.mp h
    unfold sPutC at q
    split at q
    · rename_i d s1 q1
      split at q
      · rename_i k s2 q2
        split at q
        · rename_i j s3 q3
          split at q
          · rename_i xs hx
            split at q
            · rename_i n hn
              cases q
              refine ⟨E, N, c, env, st, d, s1, R, q1, fun v N1 c1 H1 x1 W1 r1 => ?_⟩
              refine ⟨E, N1, c1, env, s1, _, s2, R.ex x1 W1, q2, fun w N2 c2 H2 x2 W2 r2 => ?_⟩
              have x12 := x1.trans x2 R.wd
              cases r2 with
              | cell hk =>
                rename_i a
                refine ⟨E, N2, c2, env, s2, _, s3, R.ex x12 W2, q3, fun z N3 c3 H3 x3 W3 r3 => ?_⟩
                have x13 := x12.trans x3 R.wd
                have R3 := R.ex x13 W3
                have hk3 := x3.pre k a hk
                obtain ⟨us, hb, r4⟩ := W3.lstC hk3 hx
                have rv : Rep mg N3 c3 H3 v d := Rep.tr (x3.tr W2) (Rep.tr (x2.tr W1) r1)
                have wr := R3.writeC hk3 (r4.set rv n)
                exact ⟨a, us, j, n, rfl, r3.int, hb, by rw [r4.length]; exact hn, p N3 c3 σ _ ((x13.sx R.wd W3).trans wr.2) wr.1⟩
            · cases q
          · cases q
        · cases q
      · cases q
    · cases q
end

/-! ### several targets -/
def gNames : List Nat → TGs
  | [] => gNil
  | i :: r => gCons (gName i) (gNames r)
def setAll : List Nat → List D → Env → Option Env
  | [], [], env => some env
  | i :: is, d :: ds, env => setAll is ds (env.set i (.val d))
  | _, _, _ => none
section
variable {mg : Glob} {X : Cx} {e : Expr} {es : List Expr} {pos : Pos} {fe : SE}
theorem g_nil : PGs X [] (gNames []) := pgs_nil
theorem g_cons {i : Nat} {is : List Nat} {x : Str} {p1 : Pos} (hN : X.N.Nodup) (h2 : PGs X es (gNames is)) (hi : X.N[i]? = some x := by rfl) (hx : Loc X.env.scope x := by first | exact Or.inl rfl | exact Or.inr rfl) (hf : X.fn x = true ∨ X.env.scope.names.lookup x = some .local := by first | exact .inl rfl | exact .inr rfl)
    (hs : (assignEach (.Name x p1 :: es) X.env).map (·.2) = assign (.Name x p1) X.env :: (assignEach es X.env).map (·.2) := by rfl) : PGs X (.Name x p1 :: es) (gNames (i :: is)) := pgs_cons (pg_name hN hi hx hf) h2 hs
theorem r_names {E : En} {N : Prot} {c : List Addr} {H : Hp} {st : Sto} {Q : L2.St → Hp → Prop} : ∀ {is : List Nat} {ds : List D} {vs : List V} {env env' : Env} {σ : L2.St}, Rel mg E N c env st σ H → RepL mg N c H vs ds → setAll is ds env = some env' → (∀ σ', Rel mg E N c env' st σ' H → Q σ' H) → gNames is vs σ H Q
  | [], [], _, _, _, σ, R, .nil, e, k => by
    cases e
    exact ⟨rfl, k σ R⟩
  | [], _ :: _, _, _, _, _, _, _, e, _ => by cases e
  | _ :: _, [], _, _, _, _, _, _, e, _ => by cases e
  | i :: is, d :: ds, _, env, env', σ, R, .cons h t, e, k => by
    refine ⟨_, _, rfl, ?_⟩
    exact r_names (R.set (s := .val d) rfl ⟨_, rfl, h⟩) t e k
theorem setAll_len : ∀ {is : List Nat} {ds : List D} {env env' : Env}, setAll is ds env = some env' → ds.length = is.length
  | [], [], _, _, _ => rfl
  | [], _ :: _, _, _, e => by cases e
  | _ :: _, [], _, _, e => by cases e
  | i :: is, d :: ds, env, env', e => by rw [List.length_cons, List.length_cons, setAll_len (show setAll is ds (env.set i (.val d)) = some env' from e)]
/-- (a, b, ..) = e -/
def sUnp (is : List Nat) (f : SE) : SS := fun env st => match f env st with
  | some (.tup ds, s1) => match setAll is ds env with
    | some env' => some (.nx env', s1)
    | none => none
  | _ => none
theorem s_unp {is : List Nat} {k : Nat} {tpos : Pos} (hc : X.calm = true) (he : PE X e (tE mg fe)) (hg : PGs X es (gNames is)) (hn : (assignEach es X.env).length = is.length := by rfl) (hst : (assignEach es X.env).findIdx? (·.1) = none := by rfl)
    (hs : swapsWithSole [.Tuple es k tpos] e pos.line X.env = pure false := by rfl) (hw : swappedStores [.Tuple es k tpos] e X.env = pure none := by rfl) (h1 : (assignEach [.Tuple es k tpos] X.env).map (·.2) = [assign (.Tuple es k tpos) X.env] := by rfl) :
    PS X (.Assign [.Tuple es k tpos] e pos) (tS mg (sUnp is fe)) := ps_weak (ps_asg he (pg_tup hc hg hn hst) hs hw h1) fun De σ H h => by
  obtain ⟨E, N, c, env, st, o, st', R, q, p⟩ := tS_def.mp h
  unfold sUnp at q
  split at q
  · rename_i ds s1 q1
    split at q
    · rename_i env' hs
      cases q
      refine ⟨E, N, c, env, st, _, _, R, q1, fun v N1 c1 H1 x1 W1 r1 => ?_⟩
      obtain ⟨a, vs, rfl, ha, rr⟩ := RepT.tup (.inl r1)
      refine ⟨a, vs, rfl, SqT.of ha, by rw [rr.length]; exact setAll_len hs, r_names (R.ex x1 W1) rr hs fun σ' R' => p N1 c1 σ' H1 (x1.sx R.wd W1) R'⟩
    · cases q
  · cases q
end
end LW

/-! LwJ: what is walked; for; list comprehensions. -/
namespace LW
open PySem L2 PyProof.Rows

/-- what is walked: the items, and what must stay true of the cells meanwhile -/
abbrev Src := List D × (Sto → Bool)
def noChk : Sto → Bool := fun _ => true
/-- the iterator J yields the items xs, from a state on, as long as what is not protected stays -/
structure ItL (mg : Glob) (J : It) (xs : Src) (N1 : Prot) (c1 : List Addr) (H1 : Hp) : Prop where
  stop : ∀ N c H st, Sx N1 c1 H1 N c H → Wd mg N c H st → xs.2 st = true → J.stop xs.1.length H
  go : ∀ (i : Nat) N c H st, i < xs.1.length → Sx N1 c1 H1 N c H → Wd mg N c H st → xs.2 st = true → J.go i H
  yld : ∀ (i : Nat) N c H st x H', i < xs.1.length → Sx N1 c1 H1 N c H → Wd mg N c H st → xs.2 st = true → J.yld i H x H' → ∃ d, xs.1[i]? = some d ∧ Ex N c H N c H' ∧ Wd mg N c H' st ∧ Rep mg N c H' x d
def tI (mg : Glob) (f : Fx Src) : TI := fun σ H R => ∃ (E : En) (N : Prot) (c : List Addr) (env : Env) (st : Sto) (xs : Src) (st' : Sto), Rel mg E N c env st σ H ∧ f env st = some (xs, st') ∧
  ∀ J N' c' H', Ex N c H N' c' H' → Wd mg N' c' H' st' → ItL mg J xs N' c' H' → R J H'
/-- a target: asg sets the slots is -/
def Dif (is : List Nat) (σ σ' : L2.St) : Prop := ∀ vs : List Nat, (∀ i ∈ is, i ∈ vs) → wipe σ' vs = wipe σ vs
def GOk (mg : Glob) (g : TG) (asg : D → Env → Option Env) (is : List Nat) : Prop := ∀ (E : En) (N : Prot) (c : List Addr) (env env' : Env) (st : Sto) (σ : L2.St) (H : Hp) (v : V) (d : D) (Q : L2.St → Hp → Prop), Rel mg E N c env st σ H → Rep mg N c H v d → asg d env = some env' →
  (∀ σ', Rel mg E N c env' st σ' H → Dif is σ σ' → Q σ' H) → g v σ H Q
def asgN (i : Nat) : D → Env → Option Env := fun d env => some (env.set i (.val d))
section
variable {mg : Glob}
theorem wipe_set : ∀ {vs : List Nat} {σ : L2.St} {i : Nat} {y : Option V}, i ∈ vs → wipe (σ.set i y) vs = wipe σ vs
  | [], _, _, _, h => by cases h
  | v :: vs, σ, i, y, h => by
    unfold wipe
    by_cases e : i ∈ vs
    · rw [wipe_set e]
    · have ev : i = v := (List.mem_cons.mp h).elim (fun z => z) fun z => absurd z e
      subst ev
      have : ∀ (us : List Nat), i ∉ us → wipe (σ.set i y) us = (wipe σ us).set i y := by
        intro us
        induction us with
        | nil => intro _; rfl
        | cons u us ih =>
          intro hu
          rw [List.mem_cons, not_or] at hu
          unfold wipe
          rw [ih hu.2, List.set_comm _ _ hu.1]
      rw [this vs e, List.set_set]
theorem gok_name (i : Nat) : GOk mg (gName i) (asgN i) [i] := by
  intro E N c env env' st σ H v d Q R r e k
  cases e
  exact k _ (R.set (s := .val d) rfl ⟨v, rfl, r⟩) fun vs h => wipe_set (h i (by simp))
end

/-! ### for -/
def loopM (chk : Sto → Bool) (asg : D → Env → Option Env) (body : SS) : List D → Env → Sto → Option (Out × Sto)
  | [], env, st => if chk st = true then some (.nx env, st) else none
  | d :: ds, env, st => if chk st = true then (match asg d env with
    | none => none
    | some e1 => match body e1 st with
      | some (.nx e2, s2) => loopM chk asg body ds e2 s2
      | some (.ct e2, s2) => loopM chk asg body ds e2 s2
      | some (.bk e2, s2) => some (.nx e2, s2)
      | some (.rt d, s2) => some (.rt d, s2)
      | none => none) else none
def sFor (fi : Fx Src) (asg : D → Env → Option Env) (body : SS) : SS := fun env st => match fi env st with
  | none => none
  | some (xs, s1) => loopM xs.2 asg body xs.1 env s1
section
variable {mg : Glob} {X : Cx} {tg iter : Expr} {body : List Stmt} {pos : Pos} {fi : Fx Src} {asg : D → Env → Option Env} {fb : SS} {g : TG} {is : List Nat}
theorem r_for (hg : GOk mg g asg is) {De : Ends} {σ : L2.St} {H : Hp} (h : tS mg (sFor fi asg fb) De σ H) : tFor (tI mg fi) g (tS mg fb) De σ H := by
  obtain ⟨E, N, c, env, st, o, st', R, q, p⟩ := tS_def.mp h
  unfold sFor at q
  split at q
  · cases q
  · rename_i src s1 q1
    obtain ⟨xs, chk⟩ := src
    refine ⟨E, N, c, env, st, (xs, chk), s1, R, q1, fun J N1 c1 H1 x1 W1 il => ?_⟩
    have R1 := R.ex x1 W1
    have sx1 := x1.sx R.wd W1
    refine ⟨fun i m σ' H' => m = xs.length - i ∧ i ≤ xs.length ∧ ∃ N' c' env' st2, Sx N1 c1 H1 N' c' H' ∧ Rel mg E N' c' env' st2 σ' H' ∧ loopM chk asg fb (xs.drop i) env' st2 = some (o, st'),
      ⟨xs.length, by omega, Nat.zero_le _, N1, c1, env, s1, Sx.refl, R1, by rw [List.drop_zero]; exact q⟩, ?_⟩
    rintro i m σ' H' ⟨rfl, hi, N', c', env', st2, sx, R', ql⟩
    by_cases hlt : i < xs.length
    · have ed : xs.drop i = xs[i] :: xs.drop (i + 1) := List.drop_eq_getElem_cons hlt
      rw [ed] at ql
      unfold loopM at ql
      split at ql
      · rename_i hck
        refine .inr ⟨il.go i N' c' H' st2 hlt sx R'.wd hck, fun σ3 H3 => ∃ N3 c3 env3 st3, Sx N1 c1 H1 N3 c3 H3 ∧ Rel mg E N3 c3 env3 st3 σ3 H3 ∧ loopM chk asg fb (xs.drop (i + 1)) env3 st3 = some (o, st'), fun σ3 H3 z => ?_, fun x H2 y => ?_⟩
        · exact ⟨xs.length - (i + 1), by omega, rfl, hlt, z⟩
        · obtain ⟨d, hd, x2, W2, r2⟩ := il.yld i N' c' H' st2 x H2 hlt sx R'.wd hck y
          have ed2 : xs[i] = d := by
            obtain ⟨_, e⟩ := List.getElem?_eq_some_iff.mp hd
            exact e
          rw [ed2] at ql
          split at ql
          · cases ql
          · rename_i e1 ha
            have R2 := R'.ex x2 W2
            have sx2 := sx.trans (x2.sx R'.wd W2)
            refine hg E N' c' env' e1 st2 σ' H2 x d _ R2 r2 ha fun σ4 R4 _ => ?_
            split at ql
            · rename_i e2 s2 qb
              exact tS_def.mpr ⟨E, N', c', e1, st2, .nx e2, s2, R4, qb, fun N5 c5 σ5 H5 x5 R5 => ⟨N5, c5, e2, s2, sx2.trans x5, R5, ql⟩⟩
            · rename_i e2 s2 qb
              exact tS_def.mpr ⟨E, N', c', e1, st2, .ct e2, s2, R4, qb, fun N5 c5 σ5 H5 x5 R5 => ⟨N5, c5, e2, s2, sx2.trans x5, R5, ql⟩⟩
            · rename_i e2 s2 qb
              cases ql
              exact tS_def.mpr ⟨E, N', c', e1, st2, .bk e2, _, R4, qb, fun N5 c5 σ5 H5 x5 R5 => p N5 c5 σ5 H5 (sx1.trans (sx2.trans x5)) R5⟩
            · rename_i d2 s2 qb
              cases ql
              exact tS_def.mpr ⟨E, N', c', e1, st2, .rt d2, _, R4, qb, p⟩
            · cases ql
      · cases ql
    · have e : i = xs.length := by omega
      subst e
      rw [List.drop_length] at ql
      unfold loopM at ql
      split at ql
      · rename_i hck
        cases ql
        exact .inl ⟨il.stop N' c' H' _ sx R'.wd hck, p N' c' σ' H' (sx1.trans sx) R'⟩
      · cases ql
theorem s_for (hp : PassesOwn (model X.prog X.w) X.A X.env X.xe) (hc : X.calm = true) (hi : PI X tg iter (tI mg fi)) (hgg : PG X tg g) (hg : GOk mg g asg is) (hb : PSs X body (tS mg fb)) (hs : ∀ x, foldedSetIterable iter X.env x = pure x := by intro _; rfl) :
    PS X (.For tg iter body [] pos) (tS mg (sFor fi asg fb)) := ps_weak (ps_for hp hc hi hgg hb hs) fun De σ H h => r_for hg h
/-- the targets: one name; several -/
theorem t_name {i : Nat} {x : Str} {p1 : Pos} (hN : X.N.Nodup) (hi : X.N[i]? = some x := by rfl) (hx : Loc X.env.scope x := by first | exact Or.inl rfl | exact Or.inr rfl) (hf : X.fn x = true ∨ X.env.scope.names.lookup x = some .local := by first | exact .inl rfl | exact .inr rfl) : PG X (.Name x p1) (gName i) := pg_name hN hi hx hf
end

/-! ### sources -/
def iSeq (f : SE) : Fx Src := fun env st => match f env st with
  | some (.lst xs, s1) => some ((xs, noChk), s1)
  | some (.tup xs, s1) => some ((xs, noChk), s1)
  | some (.cell k, s1) => match lstI s1 (.cell k) with
    | some ns => some ((ns.map D.int, fun st => decide (lstI st (.cell k) = some ns)), s1)
    | none => none
  | _ => none
theorem pi_or {X : Cx} {tg it : Expr} {t t' : TI} (h : PI X tg it t) (h' : PI X tg it t') : PI X tg it (fun σ H R => t σ H R ∨ t' σ H R) := ⟨fun pins s σ H R I q => q.elim (h.run pins s σ H R I) (h'.run pins s σ H R I)⟩
section
variable {mg : Glob} {N : Prot} {c : List Addr} {H : Hp} {K : PySem.W.Frag}
theorem il_list {a : Addr} {vs : List V} {xs : List D} (ha : H a = some (.lst vs)) (n : ¬ N a) (r : RepL mg N c H vs xs) : ItL mg (Itl K a) (xs, noChk) N c H where
  stop := fun N' c' H' st sx _ _ => ⟨vs, SqL.of (sx.keep a _ ha n), by rw [r.length]; exact Nat.le_refl _⟩
  go := fun i N' c' H' st hi sx _ _ => by
    obtain ⟨v, hv, _⟩ := r.get (List.getElem?_eq_getElem hi)
    exact ⟨vs, v, SqL.of (sx.keep a _ ha n), hv⟩
  yld := fun i N' c' H' st x H2 hi sx W _ y => by
    obtain ⟨rfl, hy⟩ := y
    obtain ⟨v, hv, rv⟩ := r.get (List.getElem?_eq_getElem hi)
    have e := hy vs (SqL.of (sx.keep a _ ha n))
    rw [hv] at e
    cases e
    exact ⟨xs[i], List.getElem?_eq_getElem hi, Ex.refl, W, rv.tr sx.tr⟩
theorem il_tup {a : Addr} {vs : List V} {xs : List D} (ha : H a = some (.tup vs)) (r : RepL mg N c H vs xs) : ItL mg (Itt K a) (xs, noChk) N c H where
  stop := fun N' c' H' st sx _ _ => ⟨vs, SqT.of (sx.tup a _ ha), by rw [r.length]; exact Nat.le_refl _⟩
  go := fun i N' c' H' st hi sx _ _ => by
    obtain ⟨v, hv, _⟩ := r.get (List.getElem?_eq_getElem hi)
    exact ⟨vs, v, SqT.of (sx.tup a _ ha), hv⟩
  yld := fun i N' c' H' st x H2 hi sx W _ y => by
    obtain ⟨rfl, hy⟩ := y
    obtain ⟨v, hv, rv⟩ := r.get (List.getElem?_eq_getElem hi)
    have e := hy vs (SqT.of (sx.tup a _ ha))
    rw [hv] at e
    cases e
    exact ⟨xs[i], List.getElem?_eq_getElem hi, Ex.refl, W, rv.tr sx.tr⟩
/-- a cell that holds whole numbers, as long as it holds the same -/
theorem il_cell {k : Nat} {a : Addr} {ns : List Int} (hk : c[k]? = some a) : ItL mg (Itl K a) (ns.map D.int, fun st => decide (lstI st (.cell k) = some ns)) N c H := by
  have look : ∀ N' c' H' (st : Sto), Sx N c H N' c' H' → Wd mg N' c' H' st → decide (lstI st (.cell k) = some ns) = true → H' a = some (.lst (ns.map V.int)) := fun N' c' H' st sx W e => by
    have e : (match lcG st k with | some xs => intsOf xs | none => none) = some ns := of_decide_eq_true e
    cases hs : lcG st k with
    | none => rw [hs] at e; cases e
    | some xs =>
      rw [hs] at e
      obtain ⟨vs, ha, r⟩ := W.lstC (sx.pre k a hk) hs
      rw [intsOf_eq e] at r
      rw [r.of_ints] at ha
      exact ha
  refine ⟨fun N' c' H' st sx W e => ⟨_, SqL.of (look N' c' H' st sx W e), by rw [List.length_map, List.length_map]; exact Nat.le_refl _⟩, fun i N' c' H' st hi sx W e => ?_, fun i N' c' H' st x H2 hi sx W e y => ?_⟩
  · rw [List.length_map] at hi
    exact ⟨_, .int ns[i], SqL.of (look N' c' H' st sx W e), by rw [List.getElem?_map, List.getElem?_eq_getElem hi]; rfl⟩
  · rw [List.length_map] at hi
    obtain ⟨rfl, hy⟩ := y
    have e2 := hy _ (SqL.of (look N' c' _ st sx W e))
    rw [List.getElem?_map, List.getElem?_eq_getElem hi] at e2
    cases e2
    exact ⟨.int ns[i], by rw [List.getElem?_map, List.getElem?_eq_getElem hi]; rfl, Ex.refl, W, .int _⟩
/-- a, a + c, a + 2 c .. -/
def rangeD (a s : Int) (n : Nat) : List D := (List.range n).map fun (i : Nat) => .int (a + (i : Int) * s)
theorem rangeD_len {a s : Int} {n : Nat} : (rangeD a s n).length = n := by
  unfold rangeD
  rw [List.length_map, List.length_range]
theorem rangeD_get {a s : Int} {n i : Nat} (h : i < n) : (rangeD a s n)[i]? = some (.int (a + (i : Int) * s)) := by
  unfold rangeD
  rw [List.getElem?_map, List.getElem?_range h]
  rfl
theorem il_range {lo : Int} {n : Nat} : ItL mg (Itr lo n) (rangeD lo 1 n, noChk) N c H where
  stop := fun N' c' H' st sx _ _ => by show n ≤ (rangeD lo 1 n).length; rw [rangeD_len]; exact Nat.le_refl _
  go := fun i N' c' H' st hi sx _ _ => by
    have hi : i < (rangeD lo 1 n).length := hi
    rw [rangeD_len] at hi; exact hi
  yld := fun i N' c' H' st x H2 hi sx W _ y => by
    have hi : i < (rangeD lo 1 n).length := hi
    obtain ⟨rfl, rfl⟩ := y
    rw [rangeD_len] at hi
    refine ⟨_, rangeD_get hi, Ex.refl, W, ?_⟩
    rw [Int.mul_one]
    exact .int _
end
def inR (i : Int) : Bool := decide (-(2 ^ 62) ≤ i) && decide (i < 2 ^ 62)
theorem inR_ok {i : Int} (h : inR i = true) : -(2 ^ 62) ≤ i ∧ i < 2 ^ 62 := by
  unfold inR at h
  rw [Bool.and_eq_true] at h
  exact ⟨of_decide_eq_true h.1, of_decide_eq_true h.2⟩
def iRg1 (f : SA) : Fx Src := fun env st => match f env st with
  | some ([.int j], s1) => if inR j = true then some ((rangeD 0 1 j.toNat, noChk), s1) else none
  | _ => none
def iRg2 (f : SA) : Fx Src := fun env st => match f env st with
  | some ([.int i, .int j], s1) => if inR i = true ∧ inR j = true then some ((rangeD i 1 (j - i).toNat, noChk), s1) else none
  | _ => none
def iRg3 (f : SA) : Fx Src := fun env st => match f env st with
  | some ([.int i, .int j, .int k], s1) => if (k ≠ 0 ∧ k.natAbs < 1073741824) ∧ Builtin.Range.small i j k = true ∧ Builtin.Range.rangeSize i j k = ((Builtin.Range.rangeSize i j k).toNat : Int) then some ((rangeD i k (Builtin.Range.rangeSize i j k).toNat, noChk), s1) else none
  | _ => none
section
variable {mg : Glob} {X : Cx} {tg e : Expr} {fe : SE} {f : SA}
theorem i_seq (h : PE X e (tE mg fe)) (hK : X.K = mg.K := by rfl) : PI X tg e (tI mg (iSeq fe)) := pi_weak (pi_or (pi_list h) (pi_tup h)) fun σ H R' ⟨E, N, c, env, st, xs, st', R, q, k⟩ => by
  unfold iSeq at q
  split at q
  · rename_i ys s1 q1
    cases q
    refine .inl ⟨E, N, c, env, st, _, _, R, q1, fun v N1 c1 H1 x1 W1 r1 => ?_⟩
    cases r1 with
    | lst ha n r => exact ⟨_, rfl, ⟨_, SqL.of ha⟩, k _ N1 c1 H1 x1 W1 (il_list ha n r)⟩
  · rename_i ys s1 q1
    cases q
    refine .inr ⟨E, N, c, env, st, _, _, R, q1, fun v N1 c1 H1 x1 W1 r1 => ?_⟩
    cases r1 with
    | tup ha r => exact ⟨_, rfl, ⟨_, SqT.of ha⟩, k _ N1 c1 H1 x1 W1 (il_tup ha r)⟩
  · rename_i kk s1 q1
    split at q
    · rename_i ns hn
      cases q
      refine .inl ⟨E, N, c, env, st, _, _, R, q1, fun v N1 c1 H1 x1 W1 r1 => ?_⟩
      obtain ⟨a, rfl, ha⟩ := RepT.ints W1 (.inl r1) hn
      cases r1 with
      | cell hk => exact ⟨a, rfl, ⟨_, hK ▸ ha⟩, k _ N1 c1 H1 x1 W1 (il_cell hk)⟩
    · cases q
  · cases q
theorem tl1' {N : Prot} {c : List Addr} {H : Hp} {us : List V} {i : Int} (h : RepTL mg N c H us [.int i]) : us = [.int i] := by
  obtain ⟨u, rfl, z⟩ := tl1 h
  rw [z.int]
theorem i_rg1 {a : Expr} {p pos : Pos} (hm : X.mg "range" = none) (ha : PA X [a] (tAP mg f)) (hg : Gl X "range" := by rfl) (hs : starEach [a] X.env = [(false, eval a X.env)] := by rfl) : PI X tg (.Call (.Name "range" p) [a] [] pos) (tI mg (iRg1 f)) := pi_weak (pi_range1 hg hm ha hs) fun σ H R' ⟨E, N, c, env, st, xs, st', R, q, k⟩ => by
  unfold iRg1 at q
  split at q
  · rename_i j s1 q1
    split at q
    · rename_i hr
      cases q
      refine ⟨E, N, c, env, st, _, _, R, q1, fun vs N1 c1 H1 x1 W1 r1 => ?_⟩
      obtain ⟨h1, h2⟩ := inR_ok hr
      exact ⟨j, tl1' r1, h1, h2, k _ N1 c1 H1 x1 W1 il_range⟩
    · cases q
  · cases q
end

/-! ### list comprehensions -/
def wipeE (env : Env) : List Nat → Env
  | [] => env
  | v :: vs => (wipeE env vs).set v .un
def compM (chk : Sto → Bool) (asg : D → Env → Option Env) (cond : SB) (elt : SE) (env0 : Env) : List D → Sto → Option (List D × Sto)
  | [], st => if chk st = true then some ([], st) else none
  | d :: ds, st => if chk st = true then (match asg d env0 with
    | none => none
    | some e1 => match cond e1 st with
      | none => none
      | some (false, s1) => compM chk asg cond elt env0 ds s1
      | some (true, s1) => match elt e1 s1 with
        | none => none
        | some (y, s2) => match compM chk asg cond elt env0 ds s2 with
          | none => none
          | some (ys, s3) => some (y :: ys, s3)) else none
def lComp (fi : Fx Src) (asg : D → Env → Option Env) (cond : SB) (elt : SE) (vs : List Nat) : Fx (List D) := fun env st => match fi env st with
  | none => none
  | some (xs, s1) => if xs.1.length ≤ 1000000 then compM xs.2 asg cond elt (wipeE env vs) xs.1 s1 else none
def bYes : SB := fun _ st => some (true, st)
section
variable {mg : Glob}
theorem Rel.wipe {E : En} {N : Prot} {c : List Addr} {env : Env} {st : Sto} {σ : L2.St} {H : Hp} (R : Rel mg E N c env st σ H) : ∀ (vs : List Nat), Rel mg E N c (wipeE env vs) st (L2.wipe σ vs) H
  | [] => R
  | v :: vs => by
    have R0 := Rel.wipe R vs
    unfold wipeE L2.wipe
    refine ⟨by rw [List.length_set, List.length_set]; exact R0.len, fun j s' e => ?_, fun j s' a e ho es => ?_, fun j k s1 s2 a e1 o1 e2 o2 h1 h2 => ?_, R0.wd, R0.n0, R0.t0, R0.base, R0.pre, R0.newc, fun j cn ns ds b e es => ?_⟩
    · rcases get_set e with ⟨rfl, rfl⟩ | ⟨ne, e⟩
      · trivial
      · rw [List.getElem?_set_ne ne]
        exact R0.sl j s' e
    · rcases get_set e with ⟨rfl, rfl⟩ | ⟨ne, e⟩
      · cases ho
      · rw [List.getElem?_set_ne ne] at es
        exact R0.own j s' a e ho es
    · rcases get_set e1 with ⟨rfl, rfl⟩ | ⟨n1, e1⟩
      · cases o1
      · rcases get_set e2 with ⟨rfl, rfl⟩ | ⟨n2, e2⟩
        · cases o2
        · rw [List.getElem?_set_ne n1] at h1
          rw [List.getElem?_set_ne n2] at h2
          exact R0.inj j k s1 s2 a e1 o1 e2 o2 h1 h2
    · rcases get_set e with ⟨rfl, e2⟩ | ⟨ne, e⟩
      · cases e2
      · rw [List.getElem?_set_ne ne] at es
        exact R0.slf j cn ns ds b e es
/-- a protected list that nobody else holds grows -/
theorem Rel.grow {E : En} {N : Prot} {c : List Addr} {env : Env} {st : Sto} {σ : L2.St} {H : Hp} {p : Addr} {us : List V} (R : Rel mg E N c env st σ H) (np : N p) (nc : p ∉ c) (h0 : E.H0 p = none) (hp : ∃ o, H p = some o ∧ ∀ us, o ≠ .tup us) (nw : ∀ (j : Nat) s, env[j]? = some s → s.isOwn = true → σ[j]? ≠ some (some (.ref p))) :
    Rel mg E N c env st σ (upd H p (.lst us)) ∧ Sx N c H N c (upd H p (.lst us)) := by
  have keep : ∀ b o, H b = some o → ¬ N b → (upd H p (.lst us)) b = some o := fun b o e n => by
    rw [upd_ne (show b ≠ p from fun z => n (z ▸ np))]; exact e
  have tk : ∀ b, (upd H p (.lst us)) b = none → H b = none := fun b e => by
    by_cases q : b = p
    · rw [q, upd_same] at e; cases e
    · rw [upd_ne q] at e; exact e
  have sx : Sx N c H N c (upd H p (.lst us)) := ⟨keep, fun _ z => .inl z, fun _ _ z => z, fun _ z => .inl z, tk, fun b us e => by rw [upd_ne (fun z => by obtain ⟨o, h1, h2⟩ := hp; rw [z, h1] at e; cases e; exact h2 us rfl)]; exact e⟩
  refine ⟨⟨R.len, fun j s' e => ?_, R.own, R.inj, ?_, R.n0, R.t0, fun b o e n => ?_, R.pre, R.newc, R.slf⟩, sx⟩
  · have q := R.sl j s' e
    cases s' with
    | un => trivial
    | val d => obtain ⟨v, ev, rv⟩ := q; exact ⟨v, ev, rv.tr sx.tr⟩
    | own ys =>
      obtain ⟨b, us', ev, hb', rv⟩ := q
      have : b ≠ p := fun z => nw j _ e rfl (by rw [← z]; exact join_some ev)
      exact ⟨b, us', ev, by rw [upd_ne this]; exact hb', rv.tr sx.tr⟩
    | ownI cn ns ds =>
      obtain ⟨b, C, dx, fs, ev, hc, hb', hn, rv⟩ := q
      have : b ≠ p := fun z => nw j _ e rfl (by rw [← z]; exact join_some ev)
      exact ⟨b, C, dx, fs, ev, hc, by rw [upd_ne this]; exact hb', hn, rv.tr sx.tr⟩
    | ownD ks ds =>
      obtain ⟨b, kvs, ev, hb', hn, rv⟩ := q
      have : b ≠ p := fun z => nw j _ e rfl (by rw [← z]; exact join_some ev)
      exact ⟨b, kvs, ev, by rw [upd_ne this]; exact hb', hn, rv.tr sx.tr⟩
    | ownT ks ds =>
      obtain ⟨b, kvs, ev, hb', hn, rv⟩ := q
      have : b ≠ p := fun z => nw j _ e rfl (by rw [← z]; exact join_some ev)
      exact ⟨b, kvs, ev, by rw [upd_ne this]; exact hb', hn, rv.tr sx.tr⟩
  · exact ⟨R.wd.len, fun k b ys h1 h2 => by
      obtain ⟨us', hb', rr⟩ := R.wd.sto k b ys h1 h2
      exact ⟨us', by rw [upd_ne (show b ≠ p from fun z => nc (z ▸ List.mem_of_getElem? h1))]; exact hb', rr.tr sx.tr⟩, R.wd.cn, R.wd.nd, fun b z e => R.wd.trk b z (tk b e)⟩
  · have : b ≠ p := fun z => by rw [z, h0] at e; cases e
    rw [upd_ne this]
    exact R.base b o e n
theorem wipe_none : ∀ {vs : List Nat} {σ : L2.St} {i : Nat}, i ∈ vs → (L2.wipe σ vs).set i none = L2.wipe σ vs
  | [], _, _, h => by cases h
  | v :: vs, σ, i, h => by
    unfold L2.wipe
    by_cases e : i = v
    · subst e
      rw [List.set_set]
    · have hi : i ∈ vs := (List.mem_cons.mp h).elim (fun z => absurd z e) fun z => z
      rw [List.set_comm _ _ (Ne.symm e), wipe_none hi]
theorem wipe_idem : ∀ {vs us : List Nat} {σ : L2.St}, (∀ i ∈ us, i ∈ vs) → L2.wipe (L2.wipe σ vs) us = L2.wipe σ vs
  | _, [], _, _ => rfl
  | vs, u :: us, σ, h => by
    show (L2.wipe (L2.wipe σ vs) us).set u none = _
    rw [wipe_idem fun i hi => h i (List.mem_cons_of_mem _ hi)]
    exact wipe_none (h u List.mem_cons_self)
variable {fi : Fx Src} {asg : D → Env → Option Env} {cond : SB} {elt : SE} {g : TG} {is vs : List Nat}
theorem r_lc (hg : GOk mg g asg is) (hv : ∀ i ∈ is, i ∈ vs) {σ : L2.St} {H : Hp} {Q : VK} (h : tL mg (lComp fi asg cond elt vs) σ H Q) : tLc (tI mg fi) g (tT mg cond) (tE mg elt) vs σ H Q := by
  obtain ⟨E, N, c, env, st, d, st', R, q, k⟩ := h
  unfold lComp at q
  split at q
  · cases q
  · rename_i src s1 q1
    obtain ⟨xs, chk⟩ := src
    split at q
    · rename_i hl
      have hl : xs.length ≤ 1000000 := hl
      refine ⟨E, N, c, env, st, (xs, chk), s1, R, q1, fun J N1 c1 H1 x1 W1 il => fun p hp => ?_⟩
      have R1 := R.ex x1 W1
      have x2 := Ex.laidN (o := .lst []) W1 hp
      have W2 := W1.laidN (o := .lst []) hp
      have h0 : E.H0 p = none := R1.fresh0 hp
      have hpH : H p = none := x1.free R.wd W1 hp
      have nw := (R1.wipe vs).notOwn hp
      refine ⟨fun i m H' => m = xs.length - i ∧ i ≤ xs.length ∧ ∃ N' c' st2 accD accV ys, Ex N c H N' c' H' ∧ Sx N1 c1 H1 N' c' H' ∧ Rel mg E N' c' (wipeE env vs) st2 (L2.wipe σ vs) H' ∧ N' p ∧ p ∉ c' ∧ H' p = some (.lst accV) ∧ RepL mg N' c' H' accV accD ∧ accD.length ≤ i ∧
        compM chk asg cond elt (wipeE env vs) (xs.drop i) st2 = some (ys, st') ∧ accD ++ ys = d,
        ⟨xs.length, by omega, Nat.zero_le _, _, c1, s1, [], [], d, x1.trans x2 R.wd, x2.sx W1 W2, (R1.ex x2 W2).wipe vs, .inr rfl, W1.cnone hp, upd_same, .nil, Nat.zero_le _, by rw [List.drop_zero]; exact q, rfl⟩, ?_⟩
      rintro i m H' ⟨rfl, hi, N', c', st2, accD, accV, ys, ex, sx, R', np, nc, hpv, ra, la, ql, ed⟩
      by_cases hlt : i < xs.length
      · have ed0 : xs.drop i = xs[i] :: xs.drop (i + 1) := List.drop_eq_getElem_cons hlt
        rw [ed0] at ql
        unfold compM at ql
        split at ql
        · rename_i hck
          refine .inr ⟨il.go i N' c' H' st2 hlt sx R'.wd hck, fun H3 => ∃ N' c' st2 accD accV ys, Ex N c H N' c' H3 ∧ Sx N1 c1 H1 N' c' H3 ∧ Rel mg E N' c' (wipeE env vs) st2 (L2.wipe σ vs) H3 ∧ N' p ∧ p ∉ c' ∧ H3 p = some (.lst accV) ∧ RepL mg N' c' H3 accV accD ∧ accD.length ≤ i + 1 ∧
            compM chk asg cond elt (wipeE env vs) (xs.drop (i + 1)) st2 = some (ys, st') ∧ accD ++ ys = d, fun H3 z => ⟨xs.length - (i + 1), by omega, rfl, hlt, z⟩, fun x H2 y => ?_⟩
          obtain ⟨d0, hd0, x3, W3, r3⟩ := il.yld i N' c' H' st2 x H2 hlt sx R'.wd hck y
          have ed2 : xs[i] = d0 := by
            obtain ⟨_, e⟩ := List.getElem?_eq_some_iff.mp hd0
            exact e
          rw [ed2] at ql
          split at ql
          · cases ql
          · rename_i e1 ha
            have R3 := R'.ex x3 W3
            refine hg E N' c' _ e1 st2 _ H2 x d0 _ R3 r3 ha fun σ4 R4 df => ⟨by rw [df vs hv]; exact wipe_idem fun _ z => z, ?_⟩
            split at ql
            · cases ql
            · rename_i sA qc
              refine ⟨E, N', c', e1, st2, false, sA, R4, qc, fun N5 c5 H5 x5 W5 => iteF ?_⟩
              have x35 := x3.trans x5 R'.wd
              exact ⟨N5, c5, sA, accD, accV, ys, ex.trans x35 R.wd, sx.trans (x35.sx R'.wd W5), R3.ex x5 W5, x5.mono p np, x35.nc R'.wd hpv nc, x35.keep p _ hpv nc, ra.tr (x35.tr R'.wd), Nat.le_succ_of_le la, ql, ed⟩
            · rename_i sA qc
              split at ql
              · cases ql
              · rename_i y1 sB qe
                split at ql
                · cases ql
                · rename_i ys1 s3 qr
                  cases ql
                  refine ⟨E, N', c', e1, st2, true, sA, R4, qc, fun N5 c5 H5 x5 W5 => iteT ?_⟩
                  refine ⟨E, N5, c5, e1, sA, y1, sB, R4.ex x5 W5, qe, fun w N6 c6 H6 x6 W6 r6 => ?_⟩
                  have x36 := (x3.trans x5 R'.wd).trans x6 R'.wd
                  have hp6 := x36.keep p _ hpv nc
                  have nc6 := x36.nc R'.wd hpv nc
                  have np6 := x36.mono p np
                  have ra6 := ra.tr (x36.tr R'.wd)
                  have ln := ra6.length
                  refine ⟨accV, hp6, sz7 (by omega), ?_⟩
                  have R6 : Rel mg E N6 c6 (wipeE env vs) sB (L2.wipe σ vs) H6 := R'.ex x36 W6
                  obtain ⟨Rg, sg⟩ := R6.grow (us := accV ++ [w]) np6 nc6 h0 ⟨_, hp6, by simp⟩ nw
                  have exT := ex.trans x36 R.wd
                  refine ⟨N6, c6, sB, accD ++ [y1], accV ++ [w], ys1, ⟨fun a o e n => ?_, exT.new, exT.mono, exT.pre, exT.newc⟩, (sx.trans (x36.sx R'.wd W6)).trans sg, Rg, np6, nc6, upd_same, (ra6.append (.cons r6 .nil)).tr sg.tr, by rw [List.length_append]; show accD.length + 1 ≤ i + 1; omega, qr, by rw [List.append_assoc]; exact ed⟩
                  rw [upd_ne (ne_of_none e hpH)]
                  exact exT.keep a o e n
        · cases ql
      · have e : i = xs.length := by omega
        subst e
        rw [List.drop_length] at ql
        unfold compM at ql
        split at ql
        · rename_i hck
          cases ql
          rw [List.append_nil] at ed
          subst ed
          exact .inl ⟨il.stop N' c' H' _ sx R'.wd hck, k _ N' c' H' ex R'.wd ⟨p, accV, rfl, hpH, np, nc, hpv, ra⟩⟩
        · cases ql
    · cases q
variable {X : Cx} {eltE tg iter : Expr} {ifs : List Expr} {scope : Scope} {own : List (Str × Nat)} {pos : Pos}
theorem pts_nilT : PTs X [] (tT mg bYes) := ⟨fun pins s σ H Q I h => (pts_nil (X := X)).run pins s σ H Q I (by
  obtain ⟨E, N, c, env, st, b, st', R, q, k⟩ := h
  cases q
  exact k N c H Ex.refl R.wd)⟩
theorem pts_oneT {c : Expr} {t : SB} (h : PT X c (tT mg t)) : PTs X [c] (tT mg t) := pts_one h
/-- [elt for target in iter if ..] -/
theorem d_lc (hc : X.calm = true) (hN : X.N.Nodup) (hi : PI X tg iter (tI mg fi)) (ok : BlkOk X.N X.env.scope scope own)
    (hgg : ∀ (s : Shared) (H : Hp) (C : Addr) (cl : List (Str × Addr)) (fp : List Addr), PG (X.blk s H scope (compEnvC scope cl C X.env) fp) tg g) (hg : GOk mg g asg is) (hv : ∀ i ∈ is, i ∈ own.map (·.2))
    (ht : ∀ (s : Shared) (H : Hp) (C : Addr) (cl : List (Str × Addr)) (fp : List Addr), PTs (X.blk s H scope (compEnvC scope cl C X.env) fp) ifs (tT mg cond))
    (he : ∀ (s : Shared) (H : Hp) (C : Addr) (cl : List (Str × Addr)) (fp : List Addr), PE (X.blk s H scope (compEnvC scope cl C X.env) fp) eltE (tE mg elt)) (hs : ∀ x, foldedSetIterable iter X.env x = pure x := by intro _; rfl) :
    PE X (.ListComp eltE [⟨tg, iter, ifs, 0⟩] scope pos) (tL mg (lComp fi asg cond elt (own.map (·.2)))) :=
  pe_weak (pe_lc hc hN hi ok hgg ht he hs) fun _ _ _ h => r_lc hg hv h
end
end LW

/-! LwK: bodies of defs; cells handed back; fields of a new instance; two names at once. -/
namespace LW
open PySem L2 PyProof.Rows

/-! ### a def by its body -/
def env0 (m : Nat) (ds : List D) : Env := ds.map Sl.val ++ List.replicate (m - ds.length) .un
def fnM (n m : Nat) (body : SS) : FM := fun ds st => if ds.length = n then (match body (env0 m ds) st with
  | some (.rt d, s1) => some (d, s1)
  | some (.nx _, s1) => some (.non, s1)
  | _ => none) else none
theorem fnM_ar {n m : Nat} {body : SS} : Ar n (fnM n m body) := fun ds st r h => by
  unfold fnM at h
  split at h
  · rename_i e; exact e
  · cases h
section
variable {mg : Glob}
theorem rel0 {N : Prot} {c : List Addr} {H : Hp} {st : Sto} {nm : List Str} {vs : List V} {ds : List D} (W : Wd mg N c H st) (r : RepL mg N c H vs ds) : Rel mg ⟨H, N, c, none⟩ N c (env0 nm.length ds) st (L2.start nm vs) H where
  len := by
    unfold L2.start env0
    rw [List.length_append, List.length_append, List.length_map, List.length_map, List.length_replicate, List.length_replicate, r.length]
  sl := fun i s e => by
    unfold env0 at e
    by_cases hi : i < ds.length
    · rw [List.getElem?_append_left (by simpa using hi), List.getElem?_map, List.getElem?_eq_getElem hi] at e
      cases e
      obtain ⟨v, hv, rv⟩ := r.get (List.getElem?_eq_getElem hi)
      refine ⟨v, ?_, rv⟩
      unfold L2.start
      rw [List.getElem?_append_left (by rw [List.length_map, r.length]; exact hi), List.getElem?_map, hv]
      rfl
    · rw [List.getElem?_append_right (by simpa using hi), List.getElem?_replicate] at e
      split at e
      · cases e; trivial
      · cases e
  own := fun i s a e ho _ => by
    unfold env0 at e
    by_cases hi : i < ds.length
    · rw [List.getElem?_append_left (by simpa using hi), List.getElem?_map, List.getElem?_eq_getElem hi] at e
      cases e; cases ho
    · rw [List.getElem?_append_right (by simpa using hi), List.getElem?_replicate] at e
      split at e
      · cases e; cases ho
      · cases e
  inj := fun i j s s' a e ho _ _ _ _ => by
    unfold env0 at e
    by_cases hi : i < ds.length
    · rw [List.getElem?_append_left (by simpa using hi), List.getElem?_map, List.getElem?_eq_getElem hi] at e
      cases e; cases ho
    · rw [List.getElem?_append_right (by simpa using hi), List.getElem?_replicate] at e
      split at e
      · cases e; cases ho
      · cases e
  wd := W
  n0 := fun _ h => h
  t0 := fun a h => W.trk a h
  base := fun _ _ h _ => h
  pre := fun _ _ h => h
  newc := fun _ h => .inl h
  slf := fun i cn ns dd a e _ => by
    unfold env0 at e
    by_cases hi : i < ds.length
    · rw [List.getElem?_append_left (by simpa using hi), List.getElem?_map, List.getElem?_eq_getElem hi] at e
      cases e
    · rw [List.getElem?_append_right (by simpa using hi), List.getElem?_replicate] at e
      split at e
      · cases e
      · cases e
theorem Fin.ex {N : Prot} {c c' : List Addr} {H H' : Hp} {st st' : Sto} {v : V} {d : D} (W : Wd mg N c H st) (f : Fin mg ⟨H, N, c, none⟩ c' st' H' v d) : Ex N c H (fun a => N a ∨ a ∈ c') c' H' where
  keep := fun a o h n => by
    by_cases q : a ∈ c'
    · rcases f.newc a q with z | z
      · exact absurd z n
      · exact absurd (h.symm.trans z) (by simp)
    · exact f.base a o h q
  new := fun a z => z.elim .inl fun q => (f.newc a q).elim (fun w => .inl (W.cn a w)) .inr
  mono := fun _ h => .inl h
  pre := f.pre
  newc := f.newc
end
section
variable {P : Program} {w : World} {K : PySem.W.Frag} {mg : Str → Option Value} {base : Heap}
/-- THE RULE for a def: it reckons what its body reckons -/
theorem fn_M {x qual : Str} {st : Stmt} {f : Addr} {fd : FuncData} {nm ps : List Str} {k : Nat} {body : SS} (F : Fun K x qual st f fd) (S : FnScope nm ps (defScope st))
    (hbody : ∀ (cdv : Value) (A : Around) (outer : List PySem.Env) (s : Shared) (H : Hp) (E : XK), Room k (A.deeper (envOfC qual (defScope st) s.heap.objs.size f cdv)) →
      PSs (cxOf CX0 P w K mg base nm qual (defScope st) f cdv A outer s H E).nox (defBody st) (tS ⟨mg, K⟩ body)) :
    FnOk P w K mg base CX0 (k + 1) f fd ps (spM ⟨mg, K⟩ (fnM ps.length nm.length body) ps.length) := by
  refine F.ok S (fun vs H Q E h => h.1) fun cdv A outer s H vs Q E hr h => ⟨_, hbody cdv A outer s H E hr, ?_⟩
  obtain ⟨_, N, c, ds, st0, d, st', W, r, q, kk⟩ := h
  unfold fnM at q
  split at q
  · rename_i hl
    have R := rel0 (nm := nm) W r
    split at q
    · rename_i d1 s1 q1
      cases q
      exact tS_def.mpr ⟨_, N, c, _, st0, _, _, R, q1, fun c' H' v fn => kk v _ c' H' (fn.ex W) fn.wd fn.rep⟩
    · rename_i e1 s1 q1
      cases q
      exact tS_def.mpr ⟨_, N, c, _, st0, _, _, R, q1, fun N' c' σ' H' sx R' => kk .non _ c' H' ((R'.fin .non).ex W) (R'.fin .non).wd (.non)⟩
    · cases q
  · cases q
end

/-! ### a new list handed back as a cell -/
def sRetC (f : Fx (List D)) : SS := fun env st => match f env st with
  | some (xs, s1) => some (.rt (.cell s1.length), s1 ++ [xs])
  | none => none
section
variable {mg : Glob} {E : En} {N : Prot} {c : List Addr} {H : Hp} {st : Sto} {env : Env} {σ : L2.St} {p : Addr} {vs : List V} {xs : List D}
theorem Rel.finC (R : Rel mg E N c env st σ H) (hp : H p = some (.lst vs)) (np : N p) (nc : p ∉ c) (h0 : E.H0 p = none) (r : RepL mg N c H vs xs) : Fin mg E (c ++ [p]) (st ++ [xs]) H (.ref p) (.cell st.length) := by
  have less : ∀ a, (E.N0 a ∨ a ∈ c ++ [p]) → N a := fun a z => z.elim (R.n0 a) fun q => (List.mem_append.mp q).elim (R.wd.cn a) fun q => by
    have e : a = p := by simpa using q
    rw [e]; exact np
  have tr : Tr N c H (fun a => E.N0 a ∨ a ∈ c ++ [p]) (c ++ [p]) H := ⟨fun _ _ e _ => e, fun a z => .inl (less a z), fun k a e => by rw [List.getElem?_append_left (List.getElem?_eq_some_iff.mp e).1]; exact e, fun _ _ e => e⟩
  have hl := R.wd.len
  refine ⟨⟨by rw [List.length_append, List.length_append, hl]; rfl, fun k a ys h1 h2 => ?_, fun a z => .inr z, ?_, fun a z => R.wd.trk a (less a z)⟩, .cell (by rw [← hl, List.getElem?_append_right (Nat.le_refl _)]; simp), fun a o e n => R.base a o e fun z => n (List.mem_append_left _ z), fun k a e => tr.pre k a (R.pre k a e), fun a z => ?_⟩
  · by_cases hk : k < c.length
    · rw [List.getElem?_append_left hk] at h1
      rw [List.getElem?_append_left (by omega)] at h2
      obtain ⟨us, ha, rr⟩ := R.wd.sto k a ys h1 h2
      exact ⟨us, ha, rr.tr tr⟩
    · rw [List.getElem?_append_right (by omega)] at h1 h2
      by_cases e : k - c.length = 0
      · rw [e] at h1
        rw [← hl, e] at h2
        cases h1
        cases h2
        exact ⟨_, hp, .l (r.tr tr)⟩
      · rw [List.getElem?_eq_none (by simp; omega)] at h1
        cases h1
  · exact List.nodup_append.mpr ⟨R.wd.nd, by simp, fun a ha b hb => by
      have e : b = p := by simpa using hb
      rw [e]
      exact fun z => nc (z ▸ ha)⟩
  · rcases List.mem_append.mp z with z | z
    · exact R.newc a z
    · have e : a = p := by simpa using z
      rw [e]; exact .inr h0
end
section
variable {mg : Glob} {X : Cx} {e : Expr} {pos : Pos} {fl : Fx (List D)}
theorem s_retC (he : PE X e (tL mg fl)) : PS X (.Return (some e) pos) (tS mg (sRetC fl)) := ps_weak (ps_ret he) fun De σ H h => by
  obtain ⟨E, N, c, env, st, o, st', R, q, p⟩ := tS_def.mp h
  unfold sRetC at q
  split at q
  · rename_i xs s1 q1
    cases q
    refine ⟨E, N, c, env, st, xs, s1, R, q1, fun v N' c' H' x W r => ?_⟩
    obtain ⟨a, vs, rfl, hn, na, nc, ha, rr⟩ := r
    exact p _ _ _ ((R.ex x W).finC ha na nc (R.fresh0 hn) rr)
  · cases q
/-- return x, x a list of the frame's own, as a cell -/
def sRetO (i : Nat) : SS := fun env st => match env[i]? with
  | some (.own xs) => some (.rt (.cell st.length), st ++ [xs])
  | _ => none
end

/-! ### the fields of a new instance -/
def putD (m : Str) (d : D) : List Str → List D → List Str × List D
  | n :: ns, v :: vs => if n = m then (n :: ns, d :: vs) else (n :: (putD m d ns vs).1, v :: (putD m d ns vs).2)
  | _, _ => ([m], [d])
theorem putD_ok {mg : Glob} {N : Prot} {c : List Addr} {H : Hp} {m : Str} {v : V} {d : D} (h : Rep mg N c H v d) : ∀ {fs : List (Str × V)} {ds : List D}, RepL mg N c H (fs.map (·.2)) ds → (putF m v fs).map (·.1) = (putD m d (fs.map (·.1)) ds).1 ∧ RepL mg N c H ((putF m v fs).map (·.2)) (putD m d (fs.map (·.1)) ds).2
  | [], [], _ => ⟨rfl, .cons h .nil⟩
  | [], _ :: _, r => by cases r
  | _ :: _, [], r => by cases r
  | (a, b) :: r, d0 :: ds, .cons h0 t => by
    obtain ⟨h1, h2⟩ := putD_ok h t
    show ((putF m v ((a, b) :: r)).map (·.1) = (if a = m then (a :: r.map (·.1), d :: ds) else (a :: (putD m d (r.map (·.1)) ds).1, d0 :: (putD m d (r.map (·.1)) ds).2)).1) ∧ RepL mg N c H ((putF m v ((a, b) :: r)).map (·.2)) (if a = m then (a :: r.map (·.1), d :: ds) else (a :: (putD m d (r.map (·.1)) ds).1, d0 :: (putD m d (r.map (·.1)) ds).2)).2
    by_cases e : a = m
    · subst e
      have ep : putF a v ((a, b) :: r) = (a, v) :: r := by
        unfold putF
        rw [if_pos rfl]
      rw [ep, if_pos rfl]
      exact ⟨rfl, .cons h t⟩
    · have ep : putF m v ((a, b) :: r) = (a, b) :: putF m v r := by
        rw [putF, if_neg e]
      rw [ep, if_neg e]
      refine ⟨?_, .cons h0 h2⟩
      rw [List.map_cons, h1]
def sFld (cn : Str) (i : Nat) (m : Str) (fe : SE) : SS := fun env st => match fe env st with
  | some (d, s1) => match env[i]? with
    | some (.ownI cn' ns vs) => if cn' = cn ∧ ns.length < 1000 then some (.nx (env.set i (.ownI cn' (putD m d ns vs).1 (putD m d ns vs).2)), s1) else none
    | _ => none
  | none => none
section
variable {mg : Glob} {N N' : Prot} {c c' : List Addr} {H H' : Hp} {st st' : Sto} {E : En} {env : Env} {σ : L2.St}
/-- the frame's own instance changes -/
theorem Rel.writeI {i : Nat} {a C dx : Addr} {cn : Str} {ns ns' : List Str} {ds ds' : List D} {fs' : List (Str × V)} (R : Rel mg E N c env st σ H) (he : env[i]? = some (.ownI cn ns ds)) (hs : σ[i]? = some (some (.ref a))) (hC : mg.mg cn = some (.ref C)) (hn : fs'.map (·.1) = ns') (r : RepL mg N c H (fs'.map (·.2)) ds') :
    Rel mg E N c (env.set i (.ownI cn ns' ds')) st σ (upd H a (.ins C dx fs')) ∧ Sx N c H N c (upd H a (.ins C dx fs')) := by
  obtain ⟨na, nc, n0⟩ := R.own i _ a he rfl hs
  have keep : ∀ b o, H b = some o → ¬ N b → (upd H a (.ins C dx fs')) b = some o := fun b o e n => by
    rw [upd_ne (show b ≠ a from fun z => n (z ▸ na))]; exact e
  have tk : ∀ b, (upd H a (.ins C dx fs')) b = none → H b = none := fun b e => by
    by_cases q : b = a
    · rw [q, upd_same] at e; cases e
    · rw [upd_ne q] at e; exact e
  have sx : Sx N c H N c (upd H a (.ins C dx fs')) := ⟨keep, fun _ z => .inl z, fun _ _ z => z, fun _ z => .inl z, tk, fun b us e => by rw [upd_ne (fun z => R.ownNT he rfl hs us (by rw [← z]; exact e))]; exact e⟩
  have ne_of_own : ∀ (j : Nat) s b, i ≠ j → env[j]? = some s → s.isOwn = true → σ[j]? = some (some (.ref b)) → b ≠ a := fun j s b ne e ho z q => by
    subst q
    exact ne (R.inj i j _ s b he rfl e ho hs z)
  refine ⟨⟨by rw [List.length_set]; exact R.len, fun j s' e => ?_, fun j s' b e ho es => ?_, fun j k s1 s2 b e1 o1 e2 o2 h1 h2 => ?_, ?_, R.n0, R.t0, fun b o e n => ?_, R.pre, R.newc, fun j cn' ns1 ds1 b e es => (get_set e).elim (fun z => by
    obtain ⟨rfl, _⟩ := z
    exact R.slf _ cn ns ds b he es) fun z => R.slf j cn' ns1 ds1 b z.2 es⟩, sx⟩
  · rcases get_set e with ⟨rfl, rfl⟩ | ⟨ne, e⟩
    · rw [hs]
      exact ⟨a, C, dx, fs', rfl, hC, upd_same, hn, r.tr sx.tr⟩
    · have q := R.sl j s' e
      cases s' with
      | un => trivial
      | val d => obtain ⟨v, ev, rv⟩ := q; exact ⟨v, ev, rv.tr sx.tr⟩
      | own ys => obtain ⟨b, us', ev, hb', rv⟩ := q; exact ⟨b, us', ev, by rw [upd_ne (ne_of_own j _ b ne e rfl (join_some ev))]; exact hb', rv.tr sx.tr⟩
      | ownI cn ns ds => obtain ⟨b, C, dx, fs, ev, hc, hb', hn, rv⟩ := q; exact ⟨b, C, dx, fs, ev, hc, by rw [upd_ne (ne_of_own j _ b ne e rfl (join_some ev))]; exact hb', hn, rv.tr sx.tr⟩
      | ownD ks ds => obtain ⟨b, kvs, ev, hb', hn, rv⟩ := q; exact ⟨b, kvs, ev, by rw [upd_ne (ne_of_own j _ b ne e rfl (join_some ev))]; exact hb', hn, rv.tr sx.tr⟩
      | ownT ks ds => obtain ⟨b, kvs, ev, hb', hn, rv⟩ := q; exact ⟨b, kvs, ev, by rw [upd_ne (ne_of_own j _ b ne e rfl (join_some ev))]; exact hb', hn, rv.tr sx.tr⟩
  · rcases get_set e with ⟨rfl, rfl⟩ | ⟨ne, e⟩
    · rw [hs] at es; cases es; exact ⟨na, nc, n0⟩
    · exact R.own j s' b e ho es
  · rcases get_set e1 with ⟨rfl, rfl⟩ | ⟨n1, e1⟩
    · rcases get_set e2 with ⟨rfl, rfl⟩ | ⟨n2, e2⟩
      · rfl
      · exact R.inj _ k _ s2 b he rfl e2 o2 h1 h2
    · rcases get_set e2 with ⟨rfl, rfl⟩ | ⟨n2, e2⟩
      · exact R.inj j _ s1 _ b e1 o1 he rfl h1 h2
      · exact R.inj j k s1 s2 b e1 o1 e2 o2 h1 h2
  · exact ⟨R.wd.len, fun k b ys h1 h2 => by
      obtain ⟨us', hb', rr⟩ := R.wd.sto k b ys h1 h2
      exact ⟨us', by rw [upd_ne (show b ≠ a from fun z => nc (z ▸ List.mem_of_getElem? h1))]; exact hb', rr.tr sx.tr⟩, R.wd.cn, R.wd.nd, fun b z e => R.wd.trk b z (tk b e)⟩
  · have : b ≠ a := fun z => by rw [z, n0] at e; cases e
    rw [upd_ne this]
    exact R.base b o e n
end
section
variable {mg : Glob} {X : Cx} {e : Expr} {pos apos : Pos} {fe : SE} {m : Str} {C : Addr} {cn : Str}
/-- self.m = e, self the frame's own new instance of the class cn -/
theorem s_fld {i : Nat} {x : Str} {p1 : Pos} (hC : mg.mg cn = some (.ref C)) (cl : Cls X.K C) (hna : NoAttr X.K C m) (he : PE X e (tE mg fe)) (hN : X.N[i]? = some x := by rfl) (hv : Vis X.env.scope x := by first | exact Or.inl rfl | exact Or.inr (Or.inl rfl) | exact Or.inr (Or.inr rfl)) (hd : (x == ("__debug__" : Str)) = false := by decide)
    (hcd : (x == ("__classdict__" : Str)) = false := by decide) (hs : swapsWith e (some (.Attribute (.Name x p1) m apos)) pos.line X.env = pure false := by rfl) :
    PS X (.Assign [.Attribute (.Name x p1) m apos] e pos) (tS mg (sFld cn i m fe)) :=
  ps_weak (ps_fld (pe_var hN hv hd hcd) he hs) fun De σ H h => by
    obtain ⟨E, N, c, env, st, o, st', R, q, p⟩ := tS_def.mp h
    unfold sFld at q
    split at q
    · rename_i d s1 q1
      split at q
      · rename_i cn' ns vs hx
        split at q
        · rename_i hl
          obtain ⟨rfl, hl⟩ := hl
          cases q
          refine ⟨E, N, c, env, st, d, _, R, q1, fun v N1 c1 H1 x1 W1 r1 => ?_⟩
          have R1 := R.ex x1 W1
          obtain ⟨a, C', dx, fs, ea, hc, ha, hn, rr⟩ := R1.sl i _ hx
          have ea := join_some ea
          rw [hC] at hc
          cases hc
          subst hn
          obtain ⟨h1, h2⟩ := putD_ok (m := m) r1 rr
          have wr := R1.writeI (dx := dx) hx ea hC h1 h2
          exact ⟨.ref a, ea, a, C, dx, fs, rfl, ha, cl, hna, by simpa using hl, p N1 c1 σ _ ((x1.sx R.wd W1).trans wr.2) wr.1⟩
        · cases q
      · cases q
    · cases q
end
/-- the body of an __init__ -/
def fldsOf (cn : Str) : Option Sl → Option (List Str × List D)
  | some (.ownI cn' ns vs) => if cn' = cn then some (ns, vs) else none
  | _ => none
theorem fldsOf_ok {cn : Str} {o : Option Sl} {ns : List Str} {vs : List D} (h : fldsOf cn o = some (ns, vs)) : o = some (.ownI cn ns vs) := by
  unfold fldsOf at h
  split at h
  · split at h
    · rename_i e
      cases h
      rw [e]
    · cases h
  · cases h
theorem env0_noOwn {m : Nat} {ds : List D} {i : Nat} {s : Sl} (e : (env0 m ds)[i]? = some s) : s.isOwn = false := by
  unfold env0 at e
  by_cases hi : i < ds.length
  · rw [List.getElem?_append_left (by simpa using hi), List.getElem?_map, List.getElem?_eq_getElem hi] at e
    cases e; rfl
  · rw [List.getElem?_append_right (by simpa using hi), List.getElem?_replicate] at e
    split at e
    · cases e; rfl
    · cases e
def initM (cn : Str) (n m : Nat) (body : SS) : FI := fun ds st => if ds.length = n then (match body (.ownI cn [] [] :: env0 (m - 1) ds) st with
  | some (.nx e, s1) => match fldsOf cn (e[0]?) with
    | some p => some (p, s1)
    | none => none
  | _ => none) else none
theorem initM_ar {cn : Str} {n m : Nat} {body : SS} : ArI n (initM cn n m body) := fun ds st r h => by
  unfold initM at h
  split at h
  · rename_i e; exact e
  · cases h
section
variable {P : Program} {w : World} {K : PySem.W.Frag} {mg : Str → Option Value} {base : Heap}
theorem fn_I {cn x qual : Str} {st : Stmt} {f : Addr} {fd : FuncData} {nm ps : List Str} {k n : Nat} {body : SS} (F : Fun K x qual st f fd) (S : FnScope nm ps (defScope st)) (hn : ps.length = n + 1) (hm : nm.length = nm.length - 1 + 1)
    (hbody : ∀ (cdv : Value) (A : Around) (outer : List PySem.Env) (s : Shared) (H : Hp) (E : XK), Room k (A.deeper (envOfC qual (defScope st) s.heap.objs.size f cdv)) →
      PSs (cxOf CX0 P w K mg base nm qual (defScope st) f cdv A outer s H E).nox (defBody st) (tS ⟨mg, K⟩ body)) :
    FnOk P w K mg base CX0 (k + 1) f fd ps (spI ⟨mg, K⟩ cn (initM cn n nm.length body) n) := by
  refine F.ok S (fun vs H Q E h => by rw [h.1, hn]) fun cdv A outer s H vs Q E hr h => ⟨_, hbody cdv A outer s H E hr, ?_⟩
  obtain ⟨_, N, c, z, dz, C, us, ds, st0, ns, fds, st', rfl, hC, hz, nz, ncz, W, r, q, kk⟩ := h
  unfold initM at q
  split at q
  · rename_i hl
    split at q
    · rename_i e1 s1 q1
      split at q
      · rename_i pr hf
        cases q
        -- the entry: as if the instance were not there
        have hs : L2.start nm (.ref z :: us) = some (.ref z) :: (us.map some ++ List.replicate (nm.length - 1 - us.length) none) := by
          unfold L2.start
          rw [List.map_cons, List.length_cons, List.cons_append]
          congr 2
          congr 1
          omega
        have R0 := rel0 (nm := List.replicate (nm.length - 1) ("" : Str)) W r
        have e0 : env0 (nm.length - 1) ds = env0 (List.replicate (nm.length - 1) ("" : Str)).length ds := by rw [List.length_replicate]
        have s0 : (us.map some ++ List.replicate (nm.length - 1 - us.length) none : L2.St) = L2.start (List.replicate (nm.length - 1) ("" : Str)) us := by
          unfold L2.start
          rw [List.length_replicate]
        have R : Rel ⟨mg, K⟩ ⟨fun a => if a = z then none else H a, fun a => N a ∧ a ≠ z, c, some z⟩ N c (.ownI cn [] [] :: env0 (nm.length - 1) ds) st0 (L2.start nm (.ref z :: us)) H := by
          rw [hs, e0, s0]
          refine ⟨by rw [List.length_cons, List.length_cons, R0.len], fun i s e => ?_, fun i s a e ho es => ?_, fun i j s s' a e1 o1 e2 o2 h1 h2 => ?_, W, fun a h => h.1, fun a h e => ?_, fun a o e nc => ?_, fun _ _ h => h, fun _ h => .inl h, fun i cn' ns' ds' a e es => ?_⟩
          · cases i with
            | zero => cases e; exact ⟨z, C, dz, [], rfl, hC, hz, rfl, .nil⟩
            | succ i => exact R0.sl i s e
          · cases i with
            | zero => cases es; exact ⟨nz, ncz, if_pos rfl⟩
            | succ i => rw [env0_noOwn e] at ho; cases ho
          · cases i with
            | zero =>
              cases j with
              | zero => rfl
              | succ j => rw [env0_noOwn e2] at o2; cases o2
            | succ i => rw [env0_noOwn e1] at o1; cases o1
          · exact W.trk a h.1 ((if_neg h.2).symm.trans e)
          · by_cases q : a = z
            · exact absurd ((if_pos q).symm.trans e) (by simp)
            · exact (if_neg q).symm.trans e
          · cases i with
            | zero => cases es; rfl
            | succ i =>
              have := env0_noOwn e
              cases this
        refine tS_def.mpr ⟨_, N, c, _, st0, .nx e1, _, R, q1, fun N' c' σ' H' sx R' => ?_⟩
        have he := fldsOf_ok hf
        obtain ⟨a, C', dx', fs', ea, hc, ha, hnm, rr⟩ := R'.sl 0 _ he
        have ea := join_some ea
        have ez : some z = some a := R'.slf 0 _ _ _ a he ea
        cases ez
        obtain ⟨nz', ncz', _⟩ := R'.own 0 _ z he rfl ea
        have ec : C' = C := by
          have := hc.symm.trans hC
          cases this; rfl
        subst ec
        refine kk N' c' H' dx' fs' (fun b o hb nb ne => ?_) sx.new (fun b hb => ?_) R'.pre (fun b hb => ?_) R'.wd ha hnm rr
        · have h0 : (fun a => if a = z then none else H a : Hp) b = some o := (if_neg ne).trans hb
          refine R'.base b o h0 fun q => ?_
          rcases R'.newc b q with q | q
          · exact nb q
          · exact absurd (h0.symm.trans q) (by simp)
        · by_cases q : b = z
          · rw [q]; exact nz'
          · exact R'.n0 b ⟨hb, q⟩
        · rcases R'.newc b hb with q | q
          · exact .inl q
          · by_cases q2 : b = z
            · exact absurd (q2 ▸ hb) ncz'
            · exact .inr ((if_neg q2).symm.trans q)
      · cases q
    · cases q
  · cases q
end
end LW

/-! LwL: == and != by an own __eq__; two names at once. -/
namespace LW
open PySem L2 PyProof.Rows

/-! ### == and != of own instances -/
section
variable {prog : Program} {w : World} {A : Around} {E : Value → Shared → Prop} {s : Shared} {K : PySem.W.Frag} {x C f : Addr} {ox : Obj} {od : Option Obj} {b tb : Value}
end
/-- x == y, x != y where the class C of x has an own __eq__ with the promise sp -/
def rOwn (K : PySem.W.Frag) (C : Addr) (sp : Sp) (neg : Bool) : R2 := fun x y H Q => ∃ a dx fs t, x = .ref a ∧ H a = some (.ins C dx fs) ∧ TyX K H y t ∧ PySem.W.notFirst K C t = true ∧ sp [x, y] H (fun v H' => ∃ b, v = .bl b ∧ Q (.bl (if neg then !b else b)) H') E0
section
variable {X : Cx} {k : Nat} {f C : Addr} {fd : FuncData} {ps : List Str} {sp : Sp}
theorem op_eqO (F : FnOk X.prog X.w X.K X.mg X.base CX0 k f fd ps sp) (hr : Room (k + 1) X.A) (hs : PySem.W.findIn X.K (.ref C) "__eq__" = some (some (.ref f))) (hf : PySem.W.isFn X.K (.ref f) = true) (hb : Binds X.K fd ps []) : OpR X (compareOp .Eq) (rOwn X.K C sp false) := by
  intro pins s σ H x y v u Q I rx ry hq
  obtain ⟨a, dx, fs, t, rfl, ha, ty, nf, q⟩ := hq
  obtain rfl : v = Value.ref a := rx
  obtain ⟨mA, J, _⟩ := ins_get I.hok ha
  obtain ⟨od, J, _⟩ := J.look
  obtain ⟨P, Z, p, _⟩ := kit_of I ry ty
  obtain ⟨m, hF⟩ := I.fr
  show wpAny (model X.prog X.w) X.A (richCompare .Eq (.ref a) u) (EP X pins σ Q) X.xe s
  refine PySem.W.cmp_K (op := .Eq) (tb := t) hr.units0 hF I.ok.mod.kin J (Z.ty _ _ I.kIn p) nf hs hf ?_
  have r2 : Vals [V.ref a, y] [Value.ref a, u] := .cons rfl (.cons ry .nil)
  refine thn (run_fn (us := [.ref a, u]) (E := E0) F (hr.mono (Nat.le_succ _)) hb .nil pass0 I r2 (by rw [List.append_nil]; exact q)) fun w s' hw => ?_
  obtain ⟨z, H', I', rz, b, rfl, qz⟩ := hw
  obtain rfl : w = Value.bool b := rz
  exact ⟨.bl b, H', I', rfl, qz⟩
end
/-- a value whose class is known -/
def okTy (st : Sto) (cs : List Str) (y : D) : Bool := match ty7 st y with
  | some _ => true
  | none => match y with
    | .obj n _ _ => decide (n ∈ cs)
    | _ => false
/-- x == y by data -/
def eOwn (cn : Str) (cs : List Str) (neg : Bool) (g : FM) (fa fb : SE) : SE := fun env st => match fa env st with
  | some (.obj cn' ns vs, s1) => if cn' = cn then (match fb env s1 with
    | none => none
    | some (y, s2) => if okTy s2 cs y = true then (match g [.obj cn' ns vs, y] s2 with
      | some (.bl b, s3) => some (.bl (if neg then !b else b), s3)
      | _ => none) else none) else none
  | _ => none
section
variable {mg : Glob} {X : Cx} {k : Nat} {f C : Addr} {fd : FuncData} {ps : List Str} {g : FM} {cn : Str} {cs : List Str} {a b : Expr} {pos : Pos} {fa fb : SE}
/-- the other's class is not asked first -/
structure NotF (mg : Glob) (cs : List Str) (C : Addr) : Prop where
  own : ∀ n C', n ∈ cs → mg.mg n = some (.ref C') → PySem.W.notFirst mg.K C (.ref C') = true
  blt : ∀ t : Ty7, PySem.W.notFirst mg.K C (.type t.name) = true
theorem r_own2 {neg : Bool} (hC : mg.mg cn = some (.ref C)) (T : Isi mg cs) (nf : NotF mg cs C) (har : Ar 2 g) {σ : L2.St} {H : Hp} {Q : VK} (h : tE mg (eOwn cn cs neg g fa fb) σ H Q) : tOp (rOwn mg.K C (spM mg g 2) neg) (tE mg fa) (tE mg fb) σ H Q := by
  obtain ⟨E0, N, c, env, st, d, st', R, q, kk⟩ := h
  unfold eOwn at q
  split at q
  · rename_i cn' ns vs s1 q1
    split at q
    · rename_i hcn
      subst hcn
      split at q
      · cases q
      · rename_i y s2 q2
        split at q
        · rename_i hty
          split at q
          · rename_i b s3 q3
            cases q
            refine ⟨E0, N, c, env, st, _, s1, R, q1, fun v N1 c1 H1 x1 W1 r1 => ?_⟩
            refine ⟨E0, N1, c1, env, s1, y, s2, R.ex x1 W1, q2, fun u N2 c2 H2 x2 W2 r2 => ?_⟩
            have r1' := Rep.tr (x2.tr W1) r1
            obtain ⟨a, C', dx, fs', rfl, hc, ha, hn, rr⟩ := RepT.obj (.inl r1')
            rw [hC] at hc
            cases hc
            have tyy : ∃ t, TyX mg.K H2 u t ∧ PySem.W.notFirst mg.K C t = true := by
              cases e7 : ty7 _ y with
              | some t => exact ⟨_, ty7_of W2 (.inl r2) e7, nf.blt t⟩
              | none =>
                unfold okTy at hty
                rw [e7] at hty
                dsimp only at hty
                split at hty
                · rename_i n ns' vs'
                  have hm := of_decide_eq_true hty
                  obtain ⟨b, C', dx', fs'', rfl, hc', hb, _, _⟩ := RepT.obj (.inl r2)
                  have cf := T.cf _ C' hm hc'
                  exact ⟨_, .base (.ins hb cf.cl cf.ha cf.hn cf.htk cf.hm), nf.own _ C' hm hc'⟩
                · cases hty
            obtain ⟨t, t1, t2⟩ := tyy
            refine ⟨a, dx, fs', t, rfl, ha, t1, t2, rfl, N2, c2, _, s2, _, _, W2, .cons r1' (.cons r2 .nil), q3, fun w N3 c3 H3 x3 W3 r3 => ?_⟩
            refine ⟨b, RepT.bl (.inl r3), ?_⟩
            exact kk _ N3 c3 H3 ((x1.trans x2 R.wd).trans x3 R.wd) W3 (.bl _)
          · cases q
        · cases q
    · cases q
  · cases q
theorem d_eqO (ha : PE X a (tE mg fa)) (hb' : PE X b (tE mg fb)) (hC : mg.mg cn = some (.ref C)) (T : Isi mg cs) (nf : NotF mg cs C) (F : FnOk X.prog X.w X.K X.mg X.base CX0 k f fd ps (spM mg g 2)) (har : Ar 2 g) (hr : Room (k + 1) X.A) (hs : PySem.W.findIn X.K (.ref C) "__eq__" = some (some (.ref f))) (hf : PySem.W.isFn X.K (.ref f) = true) (hb : Binds X.K fd ps [])
    (hK : X.K = mg.K := by rfl) : PE X (.Compare a [.Eq] [b] pos) (tE mg (eOwn cn cs false g fa fb)) :=
  pe_weak (pe_cmpR (op_eqO F hr hs hf hb) ha hb' (nomark _)) fun _ _ _ h => hK ▸ r_own2 hC T nf har h
end

/-! ### two names at once -/
/-- what a value may become: data, or a list of the frame's own -/
inductive Kd where
  | val (f : SE) | own (f : Fx (List D))
def Kd.run : Kd → Fx Sl
  | .val f => fun env st => match f env st with
    | some (d, s1) => some (.val d, s1)
    | none => none
  | .own f => fun env st => match f env st with
    | some (xs, s1) => some (.own xs, s1)
    | none => none
def sPar (i j : Nat) (a b : Kd) : SS := fun env st => match a.run env st with
  | some (x, s1) => match b.run env s1 with
    | some (y, s2) => if i = j then none else some (.nx ((env.set i x).set j y), s2)
    | none => none
  | none => none
/-- a reading that gives a slot's content -/
def RK (mg : Glob) : Told Sl := fun _ _ H N' c' H' v s => match s with
  | .val d => Rep mg N' c' H' v d
  | .own xs => ∃ p vs, v = .ref p ∧ H p = none ∧ N' p ∧ p ∉ c' ∧ H' p = some (.lst vs) ∧ RepL mg N' c' H' vs xs
  | _ => False
section
variable {mg : Glob} {X : Cx} {e a b : Expr} {pos : Pos} {fe : SE} {fl : Fx (List D)}
theorem k_val (h : PE X e (tE mg fe)) : PE X e (tX mg (RK mg) (Kd.run (.val fe))) := pe_weak h fun σ H Q ⟨E, N, c, env, st, d, st', R, q, k⟩ => by
  unfold Kd.run at q
  dsimp only at q
  split at q
  · rename_i d0 s1 q1
    cases q
    exact ⟨E, N, c, env, st, d0, _, R, q1, fun v N' c' H' x W r => k v N' c' H' x W r⟩
  · cases q
/-- a slot is set to what such a reading gave, some steps behind -/
theorem Rel.setK {E : En} {N N1 N2 : Prot} {c c1 c2 : List Addr} {H H1 H2 : Hp} {st st1 st2 : Sto} {env env' : Env} {σ σ' : L2.St} {i : Nat} {v : V} {s : Sl} (R : Rel mg E N c env st σ H) (W1 : Wd mg N1 c1 H1 st1) (x2 : Ex N1 c1 H1 N2 c2 H2) (R2 : Rel mg E N2 c2 env' st2 σ' H2)
    (r : RK mg N c H N1 c1 H1 v s) (hw : ∀ p, H p = none → ∀ (j : Nat) s, env'[j]? = some s → s.isOwn = true → σ'[j]? ≠ some (some (.ref p))) : Rel mg E N2 c2 (env'.set i s) st2 (σ'.set i (some v)) H2 := by
  cases s with
  | un => exact r.elim
  | val d => exact R2.set (s := .val d) rfl ⟨v, rfl, Rep.tr (x2.tr W1) (show Rep mg N1 c1 H1 v d from r)⟩
  | own xs =>
    obtain ⟨p, vs, rfl, hp, np, nc, hv, rr⟩ := r
    exact R2.setOwn (x2.keep p _ hv nc) (x2.mono p np) (x2.nc W1 hv nc) (R.fresh0 hp) (rr.tr (x2.tr W1)) (hw p hp)
  | ownI cn ns ds => exact r.elim
  | ownD ks ds => exact r.elim
  | ownT ks ds => exact r.elim
/-- a, b = x, y -/
theorem s_par {i j : Nat} {x y : Str} {ka kb : Kd} {px py pt : Pos} {kt k2 pt2} (hN : X.N.Nodup) (ha : PE X a (tX mg (RK mg) ka.run)) (hb : PE X b (tX mg (RK mg) kb.run)) (hc : X.calm = true := by rfl) (hi : X.N[i]? = some x := by rfl) (hj : X.N[j]? = some y := by rfl) (hij : i ≠ j := by decide)
    (hx : X.env.scope.names.lookup x = some .local := by rfl) (hy : X.env.scope.names.lookup y = some .local := by rfl)
    (hw : swappedStores [.Tuple [.Name x px, .Name y py] kt pt] (.Tuple [a, b] k2 pt2) X.env = pure (some [x, y]) := by rfl)
    (hs : swapsWithSole [.Tuple [.Name x px, .Name y py] kt pt] (.Tuple [a, b] k2 pt2) pos.line X.env = pure false := by rfl)
    (h1 : starEach [a, b] X.env = (false, eval a X.env) :: starEach [b] X.env := by rfl) (h2 : starEach [b] X.env = (false, eval b X.env) :: starEach [] X.env := by rfl) :
    PS X (.Assign [.Tuple [.Name x px, .Name y py] kt pt] (.Tuple [a, b] k2 pt2) pos) (tS mg (sPar i j ka kb)) :=
  ps_weak (ps_par hc hN hi hj hij hx hy (pa_cons ha (pa_cons hb pa_nil h2) h1) hw hs) fun De σ H h => by
    obtain ⟨E, N, c, env, st, o, st', R, q, p⟩ := tS_def.mp h
    unfold sPar at q
    split at q
    · rename_i s1 st1 q1
      split at q
      · rename_i s2 st2 q2
        split at q
        · cases q
        · cases q
          refine ⟨E, N, c, env, st, s1, st1, R, q1, fun v N1 c1 H1 x1 W1 r1 => ?_⟩
          refine ⟨E, N1, c1, env, st1, s2, _, R.ex x1 W1, q2, fun u N2 c2 H2 x2 W2 r2 => ?_⟩
          refine ⟨v, u, rfl, ?_⟩
          have x12 := x1.trans x2 R.wd
          have R2 := R.ex x12 W2
          have nw1 : ∀ p, H p = none → ∀ (j : Nat) s, env[j]? = some s → s.isOwn = true → σ[j]? ≠ some (some (.ref p)) := fun p hp => R.notOwn hp
          have Ra := Rel.setK (i := i) R W1 x2 R2 r1 nw1
          have R1 := R.ex x1 W1
          have nw2 : ∀ p, H1 p = none → ∀ (m : Nat) s, (env.set i s1)[m]? = some s → s.isOwn = true → (σ.set i (some v))[m]? ≠ some (some (.ref p)) := fun p hp m s e ho z => by
            rcases get_set e with ⟨rfl, rfl⟩ | ⟨ne, e⟩
            · have hl : i < σ.length := by
                rw [R.len]
                have := (List.getElem?_eq_some_iff.mp e).1
                simpa using this
              rw [List.getElem?_set_self hl] at z
              cases z
              cases s with
              | own xs =>
                obtain ⟨p', vs, ep, _, _, _, hv, _⟩ := r1
                cases ep
                rw [hp] at hv; cases hv
              | un => cases ho
              | val d => cases ho
              | ownI cn ns ds => exact r1.elim
              | ownD ks ds => exact r1.elim
              | ownT ks ds => exact r1.elim
            · rw [List.getElem?_set_ne ne] at z
              exact R1.notOwn hp m s e ho z
          have Rb := Rel.setK (i := j) R1 W2 Ex.refl Ra r2 nw2
          exact p N2 c2 _ H2 (x12.sx R.wd W2) Rb
      · cases q
    · cases q
end
end LW

/-! LwM: defs that say repr (nothing is being shown around them); the end of a law. -/
namespace LW
open PySem L2 PyProof.Rows

/-- as FnOk, where nothing is being shown around the call -/
structure FnD (P : Program) (w : World) (K : PySem.W.Frag) (mg : Str → Option Value) (base : Heap) (k : Nat) (f : Addr) (fd : FuncData) (ps : List Str) (sp : Sp) : Prop where
  len : ∀ vs H Q E, sp vs H Q E → vs.length = ps.length
  run : ∀ (A : Around) (outer : List PySem.Env) (s : Shared) (H : Hp) (args : Args) (us : List Value) (vs : List V) (Q : VK) (E : XK), Room k A → A.guards = some [] → Env0 P w K mg base A outer s H → BindsTo s fd args (ps.zip us) → Vals vs us → sp vs H Q E →
    codeAny (model P w) A (.call (.ref f) args) (CR CX0 outer P w H s Q E) s
section
variable {P : Program} {w : World} {K : PySem.W.Frag} {mg : Str → Option Value} {base : Heap} {k : Nat} {f : Addr} {fd : FuncData} {ps : List Str} {sp : Sp}
theorem FnD.of (F : FnOk P w K mg base CX0 k f fd ps sp) : FnD P w K mg base k f fd ps sp := ⟨F.len, fun A outer s H args us vs Q E hr _ => F.run A outer s H args us vs Q E hr⟩
theorem fn_D {x qual : Str} {st : Stmt} {nm : List Str} (F : Fun K x qual st f fd) (S : FnScope nm ps (defScope st)) (len : ∀ vs H Q E, sp vs H Q E → vs.length = ps.length)
    (hbody : ∀ (cdv : Value) (A : Around) (outer : List PySem.Env) (s : Shared) (H : Hp) (vs : List V) (Q : VK) (E : XK), Room k (A.deeper (envOfC qual (defScope st) s.heap.objs.size f cdv)) → A.guards = some [] → sp vs H Q E →
      ∃ t, PSs (cxOf CX0 P w K mg base nm qual (defScope st) f cdv A outer s H E).nox (defBody st) t ∧ t { nx := fun _ H' => Q .non H', rt := Q } (L2.start nm vs) H) : FnD P w K mg base (k + 1) f fd ps sp := by
  obtain ⟨oc, od, kV, doc, pm, an, cdv, ct, osl, rfl, lk, hcd⟩ := F.ex
  refine ⟨len, fun A outer s H args us vs Q E hr hgd e0 hb r hsp => ?_⟩
  have hl : vs.length = ps.length := len _ _ _ _ hsp
  have inK : K.In s.heap := e0.mod.kin.keeps fun b o e => (e0.bs b o e).1
  have noL : s.heap.NoLimit := e0.mod.nolimit.keeps fun b o e => (e0.bs b o e).1
  have kinds : ∀ y ∈ ps.zip us, (defScope st).names.lookup y.1 = some .local ∨ ((defScope st).names.lookup y.1 = some .cell ∧ ((cellsFrom (s.heap.objs.size + 1) (defScope st).names []).lookup y.1).isSome = true) := by
    rintro ⟨n, v⟩ hy
    exact (S.par n (List.of_mem_zip hy).1).elim .inl fun q => .inr ⟨q, PySem.W.cellsFrom_some _ _ _ (.inl q)⟩
  refine codeAny_call_function hr.depth (inK _ _ lk) rfl S.co S.gen rfl (PySem.W.codeRec_of inK hcd) (hb _ _ _ _ ?_)
  refine wpAny_newFunctionEnv_cells S.kind kinds fun env he s1 z => ?_
  subst he
  refine ⟨noL.keeps z.toInCall.keep, codeAny_func ?_⟩
  obtain ⟨t, ht, hq⟩ := hbody cdv A outer s H vs Q E (hr.deeper _) hgd hsp
  have I := inv_start (CX := CX0) (E := E) S hr.hd e0 hl r z
  refine wpAny_mono (ht.nox.run [] s1 (L2.start nm vs) H _ I hq) (fun fl s' hs => ?_) fun e s' hs => hs
  cases fl with
  | ret u =>
    obtain ⟨v, σ', H', J, rv, q⟩ := hs
    exact ⟨v, H', J.os, J.bare, J.base, J.hok, rv, q⟩
  | next =>
    obtain ⟨σ', H', J, q⟩ := hs
    exact ⟨V.non, H', J.os, J.bare, J.base, J.hok, rfl, q⟩
  | brk => exact (hs.choose_spec.choose_spec.2 : False).elim
  | cont => exact (hs.choose_spec.choose_spec.2 : False).elim
theorem fn_MD {x qual : Str} {st : Stmt} {nm : List Str} {body : SS} (F : Fun K x qual st f fd) (S : FnScope nm ps (defScope st))
    (hbody : ∀ (cdv : Value) (A : Around) (outer : List PySem.Env) (s : Shared) (H : Hp) (E : XK), Room k (A.deeper (envOfC qual (defScope st) s.heap.objs.size f cdv)) → A.guards = some [] →
      PSs (cxOf CX0 P w K mg base nm qual (defScope st) f cdv A outer s H E).nox (defBody st) (tS ⟨mg, K⟩ body)) :
    FnD P w K mg base (k + 1) f fd ps (spM ⟨mg, K⟩ (fnM ps.length nm.length body) ps.length) := by
  refine fn_D F S (fun vs H Q E h => h.1) fun cdv A outer s H vs Q E hr hgd h => ⟨_, hbody cdv A outer s H E hr hgd, ?_⟩
  obtain ⟨_, N, c, ds, st0, d, st', W, r, q, kk⟩ := h
  unfold fnM at q
  split at q
  · rename_i hl
    have R := rel0 (nm := nm) W r
    split at q
    · rename_i d1 s1 q1
      cases q
      exact tS_def.mpr ⟨_, N, c, _, st0, _, _, R, q1, fun c' H' v fn => kk v _ c' H' (fn.ex W) fn.wd fn.rep⟩
    · rename_i e1 s1 q1
      cases q
      exact tS_def.mpr ⟨_, N, c, _, st0, _, _, R, q1, fun N' c' σ' H' sx R' => kk .non _ c' H' ((R'.fin .non).ex W) (R'.fin .non).wd (.non)⟩
    · cases q
  · cases q
end
section
variable {mg : Glob} {X : Cx} {k : Nat} {f C : Addr} {fd : FuncData} {ps : List Str} {g : FM} {n : Nat} {dvs : List V} {ds : List Value} {dd : List D} {x m : Str} {p pos apos : Pos} {e o : Expr} {es : List Expr} {fs : SA} {fo : SE}
end

/-! ### the end of a law -/
/-- the script as data -/
theorem rep_script {mg : Glob} {N : Prot} {c : List Addr} {H : Hp} {a : Addr} {ns : List Int} (hO : Only H) (hS : SqL mg.K H a (ns.map V.int)) (hN : ¬ N a) : Rep mg N c H (.ref a) (.fro (ns.map D.int)) := by
  rcases hS with (h | ⟨o, h⟩) | h
  · rcases hO a with z | ⟨o, xs, z⟩
    · rw [h] at z; cases z
    · rw [h] at z; cases z
  · exact .fro h hN (RepL.ints ns)
  · exact .kro fun H' => .inr h
theorem sp_law {mg : Glob} {g : FM} {H : Hp} {a : Addr} {ns : List Int} (hO : Only H) (hS : SqL mg.K H a (ns.map V.int)) {st' : Sto} (hg : g [.fro (ns.map D.int)] [] = some (.bl true, st')) : spM mg g 1 [.ref a] H (fun v _ => v = .bl true) fun _ _ _ => False := by
  refine ⟨rfl, fun _ => False, [], [.fro (ns.map D.int)], [], .bl true, st', ⟨rfl, fun k a xs h => by simp at h, fun a h => by simp at h, List.nodup_nil, fun a h => h.elim⟩, .cons (rep_script hO hS fun z => z) .nil, hg, fun v N' c' H' _ _ r => ?_⟩
  cases r
  rfl
/-- the law's call behind the top -/
theorem law_D {P : Program} {w : World} {K : PySem.W.Frag} {mg mb : Str → Option Value} {k : Nat} {fa a : Addr} {fd : FuncData} {x : Str} {sp : Sp} {s₁ : Shared} {vs : List Value} {ns : List Int}
    (KX : K.In s₁.heap) (hns : s₁.heap.Ns mainGlobals mg) (hb : s₁.heap.Ns builtinsNs mb) (hbb : ∀ x : Str, x ≠ "__name__" → mb x = bootBuiltins x) (hlim : s₁.heap.NoLimit) (hg : s₁.gens = #[])
    (ha : s₁.heap.get? a = some { cls := .type "list", data := .seq vs.toArray }) (hi : IntsAre vs ns) (hl : ns.length ≤ sizeLine) (hr : Room k callerA)
    (F : ∀ base : Heap, K.In base → base.Ns mainGlobals mg → FnD P w K mg base k fa fd [x] sp) (hbind : ∀ (s : Shared) (u : Value), BindsTo s fd ⟨[u], []⟩ [(x, u)])
    (hsp : ∀ H : Hp, Only H → SqL K H a (ns.map V.int) → sp [.ref a] H (fun v _ => v = .bl true) fun _ _ _ => False) :
    codeAny (model P w) callerA (.call (.ref fa) ⟨[.ref a], []⟩) (fun r s' => r = .ok (.ret (.bool true)) ∧ OldK s₁.heap s'.heap ∧ s'.os = s₁.os ∧ AllBare s'.gens) s₁ := by
  have rv := vals_ints hi
  have lv := hi.length
  -- the script is tracked, frozen, unless it is an object of the module
  let ob : Obj := { cls := .type "list", data := .seq vs.toArray }
  let H : Hp := fun b => if b = a ∧ K.lookup a = none then some (.frz ob (.lst (ns.map V.int))) else none
  have hH : ∀ b u, H b = some u → b = a ∧ K.lookup a = none ∧ u = .frz ob (.lst (ns.map V.int)) := fun b u e => by
    by_cases q : b = a ∧ K.lookup a = none
    · have e' := (if_pos q).symm.trans e
      cases e'
      exact ⟨q.1, q.2, rfl⟩
    · have e' := (if_neg q).symm.trans e
      cases e'
  have hO : Only H := fun b => by
    by_cases q : b = a ∧ K.lookup a = none
    · exact .inr ⟨_, _, if_pos q⟩
    · exact .inl (if_neg q)
  have hS : SqL K H a (ns.map V.int) := by
    cases hk : K.lookup a with
    | none => exact .inl (.inr ⟨ob, if_pos ⟨rfl, hk⟩⟩)
    | some o =>
      have e := KX a o hk
      rw [ha] at e
      cases e
      exact .inr ⟨_, vs.toArray, _, hk, rfl, rfl, rfl, by rw [List.size_toArray, lv]; exact hl, by simpa using rv⟩
  have hok : HOk P w H s₁.heap := fun b u e => by
    obtain ⟨rfl, _, rfl⟩ := hH b u e
    exact ⟨ha, by rw [List.length_map]; exact hl, vs, _, rv, ha⟩
  -- namespaces and the written part are not tracked
  have dictFree : ∀ {b : Addr} {o : Obj} {es : Array DictEntry} {ep : Nat}, s₁.heap.get? b = some o → o.data = .dict es ep → H b = none := fun {b o es ep} e d => by
    cases q : H b with
    | none => rfl
    | some u =>
      obtain ⟨rfl, _, _⟩ := hH b u q
      rw [ha] at e
      cases e
      cases (show Data.seq vs.toArray _ = Data.dict es ep from d)
  have nsK : ∀ {b : Addr} {m : Str → Option Value}, s₁.heap.Ns b m → (hidT s₁.heap H).Ns b m := fun {b m} ⟨o, es, ep, e, d, r⟩ => ⟨o, es, ep, hidT_get e (dictFree e d), d, r⟩
  have kb : K.In (hidT s₁.heap H) := fun b o e => hidT_get (KX b o e) (by
    cases q : H b with
    | none => rfl
    | some u =>
      obtain ⟨rfl, z, _⟩ := hH b u q
      have e' : K.lookup b = some o := e
      rw [z] at e'; cases e')
  have md : Mod K mg (hidT s₁.heap H) := ⟨kb, nsK hns, ⟨mb, nsK hb, hbb⟩, let ⟨mc, h1, h2⟩ := hlim; ⟨mc, nsK h1, h2⟩⟩
  have e0 : Env0 P w K mg (hidT s₁.heap H) callerA [] s₁ H := ⟨rfl, md, fun b o e => of_hidT e, Nat.le_of_eq (hidT_size _ _), trivial, fun b z => absurd z (by simp [frs]), hok, .of_eq hg⟩
  refine codeAny_mono ((F _ kb (nsK hns)).run callerA [] s₁ H ⟨[.ref a], []⟩ [.ref a] [.ref a] _ _ hr rfl e0 (hbind s₁ (.ref a)) (.cons rfl .nil) (hsp H hO hS)) fun r s' h => ?_
  cases r with
  | error e => exact h.elim
  | ok fl =>
    cases fl with
    | next => exact h.elim
    | brk => exact h.elim
    | cont => exact h.elim
    | ret u =>
      obtain ⟨v, H', os, bare, un, hok', r', q⟩ := h
      subst q
      obtain rfl : u = Value.bool true := r'
      refine ⟨rfl, OldK.of_keep fun b o e => ?_, os, bare⟩
      cases q : H b with
      | none => exact un.keep b o e q (by simp [frs]) (by simp)
      | some u =>
        obtain ⟨rfl, hk, rfl⟩ := hH b u q
        have z2 := un.frzs b ob _ q
        obtain ⟨e1, _⟩ := hok b _ q
        obtain ⟨e2, _⟩ := hok' b _ z2
        rw [e] at e1
        cases e1
        exact e2
end LW

/-! LwN: short words: a def, a method, a class, with where it stands. -/
namespace LW
open PySem L2 PyProof.Rows

section
variable (P : Program) (w : World) (K : PySem.W.Frag) (mg : Str → Option Value) (base : Heap)
/-- the def x of the module, as the top has left it -/
def FT (x : Str) (st : Stmt) : Prop := ∃ f fd, mg x = some (.ref f) ∧ Fun K x x st f fd
/-- the method m of the class at C -/
def MT (C : Addr) (m qual : Str) (st : Stmt) : Prop := ∃ f fd, Meth K C m f ∧ Fun K m qual st f fd
/-- the def x keeps the promise of g -/
def OkF (k : Nat) (x : Str) (ps : List Str) (g : FM) : Prop := ∃ f fd, mg x = some (.ref f) ∧ PySem.W.keepIn K (.ref f) = true ∧ FnOk P w K mg base CX0 k f fd ps (spM ⟨mg, K⟩ g ps.length) ∧ Binds K fd ps [] ∧ Ar ps.length g
def OkD (k : Nat) (x : Str) (ps : List Str) (g : FM) : Prop := ∃ f fd, mg x = some (.ref f) ∧ PySem.W.keepIn K (.ref f) = true ∧ FnD P w K mg base k f fd ps (spM ⟨mg, K⟩ g ps.length) ∧ Binds K fd ps [] ∧ Ar ps.length g
def OkM (k : Nat) (C : Addr) (m : Str) (ps : List Str) (g : FM) : Prop := ∃ f fd, Meth K C m f ∧ FnOk P w K mg base CX0 k f fd ps (spM ⟨mg, K⟩ g ps.length) ∧ Binds K fd ps [] ∧ Ar ps.length g
/-- the class cn is made by an __init__ that reckons g -/
def OkC (k : Nat) (cn : Str) (C : Addr) (n : Nat) (ps : List Str) (g : FI) : Prop := ∃ f fd, Mk K C f ∧ FnOk P w K mg base CX0 k f fd ps (spI ⟨mg, K⟩ cn g n) ∧ Binds K fd ps [] ∧ ArI n g
end
section
variable {P : Program} {w : World} {K : PySem.W.Frag} {mg : Str → Option Value} {base : Heap} {k : Nat} {x m qual cn : Str} {st : Stmt} {nm ps : List Str} {body : SS} {C : Addr}
theorem okF_mk (F : FT K mg x st) (S : FnScope nm ps (defScope st))
    (hb : ∀ (kV doc pm : Value) (an : Option Addr) (cdv ct : Value) (us : List Value), us.length = ps.length → bindArgs (PySem.W.fnOf x x (defArgs st) (defBody st) (defScope st) .none kV doc pm an cdv ct) ⟨us, []⟩ = pure (ps.zip us))
    (hbody : ∀ (f : Addr) (cdv : Value) (A : Around) (outer : List PySem.Env) (s : Shared) (H : Hp) (E : XK), Room k (A.deeper (envOfC x (defScope st) s.heap.objs.size f cdv)) →
      PSs (cxOf CX0 P w K mg base nm x (defScope st) f cdv A outer s H E).nox (defBody st) (tS ⟨mg, K⟩ body)) : OkF P w K mg base (k + 1) x ps (fnM ps.length nm.length body) := by
  obtain ⟨f, fd, hm, F⟩ := F
  exact ⟨f, fd, hm, F.kp, fn_M F S fun cdv A outer s H E hr => hbody f cdv A outer s H E hr, F.binds hb, fnM_ar⟩
theorem OkF.d (h : OkF P w K mg base k x ps g) : OkD P w K mg base k x ps g := by
  obtain ⟨f, fd, h1, h2, h3, h4, h5⟩ := h
  exact ⟨f, fd, h1, h2, FnD.of h3, h4, h5⟩
theorem okM_mk (F : MT K C m qual st) (S : FnScope nm ps (defScope st))
    (hb : ∀ (kV doc pm : Value) (an : Option Addr) (cdv ct : Value) (us : List Value), us.length = ps.length → bindArgs (PySem.W.fnOf m qual (defArgs st) (defBody st) (defScope st) .none kV doc pm an cdv ct) ⟨us, []⟩ = pure (ps.zip us))
    (hbody : ∀ (f : Addr) (cdv : Value) (A : Around) (outer : List PySem.Env) (s : Shared) (H : Hp) (E : XK), Room k (A.deeper (envOfC qual (defScope st) s.heap.objs.size f cdv)) →
      PSs (cxOf CX0 P w K mg base nm qual (defScope st) f cdv A outer s H E).nox (defBody st) (tS ⟨mg, K⟩ body)) : OkM P w K mg base (k + 1) C m ps (fnM ps.length nm.length body) := by
  obtain ⟨f, fd, hm, F⟩ := F
  exact ⟨f, fd, hm, fn_M F S fun cdv A outer s H E hr => hbody f cdv A outer s H E hr, F.binds hb, fnM_ar⟩
theorem okC_mk {n : Nat} (F : ∃ f fd, Mk K C f ∧ Fun K "__init__" qual st f fd) (S : FnScope nm ps (defScope st)) (hn : ps.length = n + 1) (hm : nm.length = nm.length - 1 + 1)
    (hb : ∀ (kV doc pm : Value) (an : Option Addr) (cdv ct : Value) (us : List Value), us.length = ps.length → bindArgs (PySem.W.fnOf "__init__" qual (defArgs st) (defBody st) (defScope st) .none kV doc pm an cdv ct) ⟨us, []⟩ = pure (ps.zip us))
    (hbody : ∀ (f : Addr) (cdv : Value) (A : Around) (outer : List PySem.Env) (s : Shared) (H : Hp) (E : XK), Room k (A.deeper (envOfC qual (defScope st) s.heap.objs.size f cdv)) →
      PSs (cxOf CX0 P w K mg base nm qual (defScope st) f cdv A outer s H E).nox (defBody st) (tS ⟨mg, K⟩ body)) : OkC P w K mg base (k + 1) cn C n ps (initM cn n nm.length body) := by
  obtain ⟨f, fd, hM, F⟩ := F
  exact ⟨f, fd, hM, fn_I F S hn hm fun cdv A outer s H E hr => hbody f cdv A outer s H E hr, F.binds hb, initM_ar⟩
end

/-! ### calls -/
section
variable {X : Cx} {k : Nat} {C : Addr} {ps : List Str} {g : FM} {gi : FI} {n : Nat} {dvs : List V} {dd : List D} {x m cn : Str} {p pos apos : Pos} {e o a b : Expr} {es : List Expr} {fs : SA} {fo fa fb : SE}
theorem c_call (h : OkF X.prog X.w X.K X.mg X.base k x ps g) (hr : Room k X.A) (ha : PA X (e :: es) (tA ⟨X.mg, X.K⟩ fs)) (hg : Gl X x := by rfl) (hdb : (x == ("__debug__" : Str)) = false := by decide) (he : starEach (e :: es) X.env = (false, eval e X.env) :: starEach es X.env := by rfl) (hpl : (backTo pos (starEach es X.env)).any (·.1) = false := by rfl) :
    PE X (.Call (.Name x p) (e :: es) [] pos) (tE ⟨X.mg, X.K⟩ (eCall g [] fs)) := by
  obtain ⟨f, fd, hm, hk, F, hb, ar⟩ := h
  exact d_call F ar hr hm hk hb .nil dfl_nil ha hg hdb he hpl
theorem c_meth0 (h : OkM X.prog X.w X.K X.mg X.base k C m ps g) (hC : X.mg cn = some (.ref C)) (cl : Cls X.K C) (hr : Room k X.A) (ho : PE X o (tE ⟨X.mg, X.K⟩ fo))
    {pl : Sem Bool} (ht : eval (.Call (.Attribute o m apos) [] [] pos) X.env = (do
      let ov ← eval o X.env
      standAt apos.atName
      let (f, first) ← holding [ov] (getMethod ov m pl)
      callWith pos f first (backTo pos (starEach [] X.env)) (backToKw pos (keywordEach [] X.env))) := by rfl) :
    PE X (.Call (.Attribute o m apos) [] [] pos) (tE ⟨X.mg, X.K⟩ (eMeth cn m g [] fo aNil)) := by
  obtain ⟨f, fd, hm, F, hb, ar⟩ := h
  exact d_meth0 ho hC cl hm F ar hr hb .nil dfl_nil ht
theorem c_make (h : OkC X.prog X.w X.K X.mg X.base k x C n ps gi) (hC : X.mg x = some (.ref C)) (hr : Room (k + 1) X.A) (ha : PA X (e :: es) (tA ⟨X.mg, X.K⟩ fs)) (hg : Gl X x := by rfl) (hdb : (x == ("__debug__" : Str)) = false := by decide) (he : starEach (e :: es) X.env = (false, eval e X.env) :: starEach es X.env := by rfl) (hpl : (backTo pos (starEach es X.env)).any (·.1) = false := by rfl) :
    PE X (.Call (.Name x p) (e :: es) [] pos) (tE ⟨X.mg, X.K⟩ (eMake x gi [] fs)) := by
  obtain ⟨f, fd, M, F, hb, ar⟩ := h
  exact d_make M F ar hr hC hb .nil dfl_nil ha rfl hg hdb he hpl
/-- a class with an own __eq__ -/
structure EqF (X : Cx) (k : Nat) (C : Addr) (cs : List Str) (g : FM) : Prop where
  isi : Isi ⟨X.mg, X.K⟩ cs
  nf : NotF ⟨X.mg, X.K⟩ cs C
  ne : PySem.W.findIn X.K (.ref C) "__ne__" = some (some (.builtin "object.__ne__"))
  ob : PySem.W.mroIn X.K C (.type "object") = some true
  eq : ∃ ps, ps.length = 2 ∧ OkM X.prog X.w X.K X.mg X.base k C "__eq__" ps g
theorem c_eq {cs : List Str} (h : EqF X k C cs g) (hC : X.mg cn = some (.ref C)) (hr : Room (k + 1) X.A) (ha : PE X a (tE ⟨X.mg, X.K⟩ fa)) (hb' : PE X b (tE ⟨X.mg, X.K⟩ fb)) : PE X (.Compare a [.Eq] [b] pos) (tE ⟨X.mg, X.K⟩ (eOwn cn cs false g fa fb)) := by
  obtain ⟨ps, hl, f, fd, hm, F, hb, ar⟩ := h.eq
  rw [hl] at F ar
  exact d_eqO ha hb' hC h.isi h.nf F ar hr hm.at_ hm.fn hb
/-- n.bit_length() -/
def eBits (f : SE) : SE := fun env st => match f env st with
  | some (.int i, s1) => some (.int (Builtin.Int.intBits i : Nat), s1)
  | _ => none
end
theorem d_bits {mg : Glob} {X : Cx} {o : Expr} {fo : SE} {apos pos : Pos} (ho : PE X o (tP mg fo)) (hbase : attributeBase o "bit_length" X.env (eval o X.env) = eval o X.env := by rfl) (hline : (apos.endLine == pos.line) = true := by rfl) : PE X (.Call (.Attribute o "bit_length" apos) [] [] pos) (tE mg (eBits fo)) :=
  pe_weak (pe_bits ho hbase hline) fun σ H Q ⟨E, N, c, env, st, d, st', R, q, k⟩ => by
    unfold eBits at q
    split at q
    · rename_i i s1 q1
      cases q
      exact ⟨E, N, c, env, st, _, _, R, q1, fun v N1 c1 H1 x1 W1 r1 => ⟨i, r1.int, k _ N1 c1 H1 x1 W1 (.int _)⟩⟩
    · cases q
end LW

/-! LwO: from what the head has written to the words of LwN. -/
namespace LW
open PySem L2 PyProof.Rows
section
variable {P : Program} {w : World} {K : PySem.W.Frag} {mg : Str → Option Value} {base h : Heap} {x m qual cn : Str} {st : Stmt} {f p C T : Addr} {oc kV doc pm cdv ct : Value} {od an : Option Addr} {osl : Array (Option Value)} {rest : List Value}
theorem cf_mk (pg : PySem.W.plainGet K C Str.empty = true) (hd : PySem.W.hasDictIn K C = true) (po : PySem.W.plainOver K C = true) (sa : PySem.W.findIn K (.ref C) "__setattr__" = some (some (.builtin "object.__setattr__")))
    (ha : PySem.W.findIn K (.ref C) "__class__" = some (some (.builtin "object.__class__"))) (hn : PySem.W.specialIn K (.builtin "object.__class__") "__get__" = some (some (.builtin "getset_descriptor.__get__")))
    (htk : PySem.W.takesIn K (.builtin "object.__class__") = some true) (hm : PySem.W.mroIn K C (.type "object") = some true) : CF K C := ⟨⟨pg, hd, po, sa⟩, ha, hn, htk, hm⟩
theorem isi1_mk (hC : mg cn = some (.ref C)) (cf : CF K C) (oo : PySem.W.kitOne K (.ref C) (.ref C) = some true) (b1 : PySem.W.kitOne K (.type "int") (.ref C) = some false) (b2 : PySem.W.kitOne K (.type "str") (.ref C) = some false) (b3 : PySem.W.kitOne K (.type "list") (.ref C) = some false)
    (b4 : PySem.W.kitOne K (.type "tuple") (.ref C) = some false) (b5 : PySem.W.kitOne K (.type "dict") (.ref C) = some false) (b6 : PySem.W.kitOne K (.type "bool") (.ref C) = some false) (b7 : PySem.W.kitOne K (.type "NoneType") (.ref C) = some false)
    (d1 : PySem.W.kitOne K (.ref C) (.type "int") = some false) (d2 : PySem.W.kitOne K (.ref C) (.type "str") = some false) (d3 : PySem.W.kitOne K (.ref C) (.type "list") = some false) (d4 : PySem.W.kitOne K (.ref C) (.type "tuple") = some false) (d5 : PySem.W.kitOne K (.ref C) (.type "dict") = some false)
    (d6 : PySem.W.kitOne K (.ref C) (.type "bool") = some false) : Isi ⟨mg, K⟩ [cn] where
  cf n C' h hn := by
    cases List.mem_singleton.mp h
    cases hC.symm.trans hn
    exact cf
  oo n m C1 C2 h h' hn hm := by
    cases List.mem_singleton.mp h
    cases List.mem_singleton.mp h'
    cases hC.symm.trans hn
    cases hC.symm.trans hm
    rw [oo]; simp
  bo t m C' h hn := by
    cases List.mem_singleton.mp h
    cases hC.symm.trans hn
    cases t <;> assumption
  ob n C' t h hn ne := by
    cases List.mem_singleton.mp h
    cases hC.symm.trans hn
    cases t <;> first | assumption | exact absurd rfl ne
/-- law itself -/
theorem fn_end {nm : List Str} {par : Str} {fa : Addr} {k : Nat} {body : SS} (F : FT K mg x st) (hfa : mg x = some (.ref fa)) (S : FnScope nm [par] (defScope st))
    (hb : ∀ (kV doc pm : Value) (an : Option Addr) (cdv ct u : Value), bindArgs (PySem.W.fnOf x x (defArgs st) (defBody st) (defScope st) .none kV doc pm an cdv ct) ⟨[u], []⟩ = pure [(par, u)])
    (hbody : ∀ (base : Heap) (f : Addr) (cdv : Value) (A : Around) (outer : List PySem.Env) (s : Shared) (H : Hp) (E : XK), Room k (A.deeper (envOfC x (defScope st) s.heap.objs.size f cdv)) → A.guards = some [] →
      PSs (cxOf CX0 P w K mg base nm x (defScope st) f cdv A outer s H E).nox (defBody st) (tS ⟨mg, K⟩ body)) :
    ∃ fd : FuncData, (∀ (s : Shared) (u : Value), BindsTo s fd ⟨[u], []⟩ [(par, u)]) ∧ ∀ base : Heap, FnD P w K mg base (k + 1) fa fd [par] (spM ⟨mg, K⟩ (fnM 1 nm.length body) 1) := by
  obtain ⟨f, fd, hm, F⟩ := F
  cases hfa.symm.trans hm
  refine ⟨fd, fun s u => ?_, fun base => fn_MD F S fun cdv A outer s H E hr hg => hbody base fa cdv A outer s H E hr hg⟩
  obtain ⟨_, _, kV, doc, pm, an, cdv, ct, _, rfl, _, _⟩ := F.ex
  exact .of_eq (hb kV doc pm an cdv ct u)
end
end LW

/-! LwP: how a mirror runs, told backwards. -/
namespace LW
open PySem L2
inductive Ok {α : Type} (o : Option (α × Sto)) (Q : α → Sto → Prop) : Prop where
  | mk (a : α) (s : Sto) (e : o = some (a, s)) (h : Q a s)
inductive Od {α : Type} (o : Option α) (Q : α → Prop) : Prop where
  | mk (a : α) (e : o = some a) (h : Q a)
@[reducible] def AsB : D → (Bool → Prop) → Prop
  | .bl b, Q => Q b
  | _, _ => False
@[reducible] def AsI : D → (Int → Prop) → Prop
  | .int b, Q => Q b
  | _, _ => False
@[reducible] def AsK : D → (Nat → Prop) → Prop
  | .cell b, Q => Q b
  | _, _ => False
@[reducible] def AsO : D → (Str → List Str → List D → Prop) → Prop
  | .obj c n v, Q => Q c n v
  | _, _ => False
theorem AsB.of {d : D} {Q : Bool → Prop} (h : AsB d Q) : ∃ b, d = .bl b ∧ Q b := by
  cases d <;> first | exact ⟨_, rfl, h⟩ | exact h.elim
theorem AsI.of {d : D} {Q : Int → Prop} (h : AsI d Q) : ∃ b, d = .int b ∧ Q b := by
  cases d <;> first | exact ⟨_, rfl, h⟩ | exact h.elim
theorem AsK.of {d : D} {Q : Nat → Prop} (h : AsK d Q) : ∃ b, d = .cell b ∧ Q b := by
  cases d <;> first | exact ⟨_, rfl, h⟩ | exact h.elim
theorem AsO.of {d : D} {Q : Str → List Str → List D → Prop} (h : AsO d Q) : ∃ a b c, d = .obj a b c ∧ Q a b c := by
  cases d <;> first | exact ⟨_, _, _, rfl, h⟩ | exact h.elim
theorem b_dec {p : Prop} [Decidable p] {A B : Prop} (h1 : p → A) (h2 : ¬ p → B) : if decide p = true then A else B := by
  by_cases h : p
  · rw [decide_eq_true h, if_pos rfl]
    exact h1 h
  · rw [decide_eq_false h, if_neg Bool.false_ne_true]
    exact h2 h
theorem b_t {b : Bool} {A B : Prop} (h : b = true) (h1 : A) : if b = true then A else B := by rw [if_pos h]; exact h1
theorem b_f {b : Bool} {A B : Prop} (h : b = false) (h1 : B) : if b = true then A else B := by rw [h, if_neg Bool.false_ne_true]; exact h1
theorem Ok.mono {α : Type} {o : Option (α × Sto)} {Q R : α → Sto → Prop} (h : Ok o Q) (k : ∀ a s, Q a s → R a s) : Ok o R := by
  obtain ⟨a, s, e, q⟩ := h
  exact ⟨a, s, e, k a s q⟩
theorem Ok.eq {α : Type} {o : Option (α × Sto)} {a : α} {s : Sto} (h : Ok o fun x t => x = a ∧ t = s) : o = some (a, s) := by
  obtain ⟨_, _, e, rfl, rfl⟩ := h
  exact e
theorem Ok.use {α : Type} {o : Option (α × Sto)} {a : α} {s : Sto} {Q : α → Sto → Prop} (e : o = some (a, s)) (h : Q a s) : Ok o Q := ⟨a, s, e, h⟩
section
variable {env : Env} {st : Sto} {Q : D → Sto → Prop} {QB : Bool → Sto → Prop} {QL : List D → Sto → Prop} {QS : Out → Sto → Prop} {i : Nat} {d : D} {fa fb fe : SE} {fs gs : SA} {fl : Fx (List D)} {ta tb : SB} {xs : List D}
theorem z_var (e : env[i]? = some (.val d)) (h : Q d st) : Ok (eVar i env st) Q := ⟨d, st, by unfold eVar; rw [e], h⟩
theorem z_pk (e : env[i]? = some (.val d)) (h : Q d st) : Ok (ePeek i env st) Q := ⟨d, st, by unfold ePeek; rw [e], h⟩
theorem z_pkO (e : env[i]? = some (.own xs)) (h : Q (.lst xs) st) : Ok (ePeek i env st) Q := ⟨_, st, by unfold ePeek; rw [e], h⟩
theorem z_c (h : Q d st) : Ok (eC d env st) Q := ⟨d, st, rfl, h⟩
theorem z_op {α : Type} {op : D → D → Sto → Option α} {Q : α → Sto → Prop} (h : Ok (fa env st) fun x s1 => Ok (fb env s1) fun y s2 => Od (op x y s2) fun d => Q d s2) : Ok (eOp op fa fb env st) Q := by
  obtain ⟨x, s1, e1, y, s2, e2, d, e3, q⟩ := h
  exact ⟨d, s2, by unfold eOp; rw [e1]; dsimp only; rw [e2]; dsimp only; rw [e3], q⟩
theorem z_nil (h : QL [] st) : Ok (aNil env st) QL := ⟨_, st, rfl, h⟩
theorem z_cons (h : Ok (fe env st) fun d s1 => Ok (fs env s1) fun ds s2 => QL (d :: ds) s2) : Ok (aCons fe fs env st) QL := by
  obtain ⟨x, s1, e1, y, s2, e2, q⟩ := h
  exact ⟨_, s2, by unfold aCons; rw [e1]; dsimp only; rw [e2], q⟩
theorem z_tup (h : Ok (fs env st) fun ds s => ds.length ≤ 1000000 ∧ Q (.tup ds) s) : Ok (eTup fs env st) Q := by
  obtain ⟨x, s1, e1, l, q⟩ := h
  exact ⟨_, s1, by unfold eTup; rw [e1]; dsimp only; rw [if_pos l], q⟩
theorem z_lst (h : Ok (fs env st) fun ds s => ds.length ≤ 1000000 ∧ QL ds s) : Ok (lDisp fs env st) QL := by
  obtain ⟨x, s1, e1, l, q⟩ := h
  exact ⟨_, s1, by unfold lDisp; rw [e1]; dsimp only; rw [if_pos l], q⟩
theorem z_L (h : Ok (fl env st) fun ds s => Q (.lst ds) s) : Ok (eL fl env st) Q := by
  obtain ⟨x, s1, e1, q⟩ := h
  exact ⟨_, s1, by unfold eL; rw [e1]; rfl, q⟩
theorem z_bi {α : Type} {g : List D → Sto → Option α} {Q : α → Sto → Prop} (h : Ok (fs env st) fun ds s => Od (g ds s) fun d => Q d s) : Ok (eBi g fs env st) Q := by
  obtain ⟨x, s1, e1, d, e2, q⟩ := h
  exact ⟨d, s1, by unfold eBi; rw [e1]; dsimp only; rw [e2], q⟩
theorem z_call {g : FM} {dd : List D} (h : Ok (fs env st) fun ds s => Ok (g (ds ++ dd) s) Q) : Ok (eCall g dd fs env st) Q := by
  obtain ⟨x, s1, e1, d, s2, e2, q⟩ := h
  exact ⟨d, s2, by unfold eCall; rw [e1]; exact e2, q⟩
theorem z_meth {cn m : Str} {g : FM} {dd : List D} (h : Ok (fe env st) fun o s1 => AsO o fun c ns vs => c = cn ∧ ¬ m ∈ ns ∧ Ok (fs env s1) fun ds s2 => Ok (g (.obj c ns vs :: (ds ++ dd)) s2) Q) : Ok (eMeth cn m g dd fe fs env st) Q := by
  obtain ⟨o, s1, e1, h⟩ := h
  obtain ⟨c, ns, vs, rfl, rfl, hm, ds, s2, e2, d, s3, e3, q⟩ := h.of
  exact ⟨d, s3, by unfold eMeth; rw [e1]; dsimp only; rw [if_pos ⟨rfl, hm⟩, e2]; exact e3, q⟩
theorem z_prop {cn : Str} {g : FM} (h : Ok (fe env st) fun o s1 => AsO o fun c ns vs => c = cn ∧ Ok (g [.obj c ns vs] s1) Q) : Ok (eProp cn g fe env st) Q := by
  obtain ⟨o, s1, e1, h⟩ := h
  obtain ⟨c, ns, vs, rfl, rfl, d, s3, e3, q⟩ := h.of
  exact ⟨d, s3, by unfold eProp; rw [e1]; dsimp only; rw [if_pos rfl]; exact e3, q⟩
theorem z_fld {cn m : Str} (h : Ok (fe env st) fun o s1 => AsO o fun c ns vs => c = cn ∧ Od (fldD m ns vs) fun d => Q d s1) : Ok (eFld cn m fe env st) Q := by
  obtain ⟨o, s1, e1, h⟩ := h
  obtain ⟨c, ns, vs, rfl, rfl, d, e3, q⟩ := h.of
  exact ⟨d, s1, by unfold eFld; rw [e1]; dsimp only; rw [if_pos rfl, e3], q⟩
theorem z_make {cn : Str} {g : FI} {dd : List D} (h : Ok (fs env st) fun ds s => Ok (g (ds ++ dd) s) fun r s2 => Q (.obj cn r.1 r.2) s2) : Ok (eMake cn g dd fs env st) Q := by
  obtain ⟨x, s1, e1, r, s2, e2, q⟩ := h
  exact ⟨_, s2, by unfold eMake; rw [e1]; dsimp only; rw [e2], q⟩
theorem z_and (h : Ok (fa env st) fun d s1 => AsB d fun b => if b = true then Ok (fb env s1) Q else Q (.bl false) s1) : Ok (eAnd fa fb env st) Q := by
  obtain ⟨o, s1, e1, h⟩ := h
  obtain ⟨b, rfl, h⟩ := h.of
  cases b with
  | true =>
    obtain ⟨d, s2, e2, q⟩ := h
    exact ⟨d, s2, by unfold eAnd; rw [e1]; exact e2, q⟩
  | false => exact ⟨_, s1, by unfold eAnd; rw [e1], h⟩
theorem z_or (h : Ok (fa env st) fun d s1 => AsB d fun b => if b = true then Q (.bl true) s1 else Ok (fb env s1) Q) : Ok (eOr fa fb env st) Q := by
  obtain ⟨o, s1, e1, h⟩ := h
  obtain ⟨b, rfl, h⟩ := h.of
  cases b with
  | false =>
    obtain ⟨d, s2, e2, q⟩ := h
    exact ⟨d, s2, by unfold eOr; rw [e1]; exact e2, q⟩
  | true => exact ⟨_, s1, by unfold eOr; rw [e1], h⟩
theorem z_not (h : Ok (fa env st) fun d s1 => AsB d fun b => Q (.bl (!b)) s1) : Ok (eNot fa env st) Q := by
  obtain ⟨o, s1, e1, h⟩ := h
  obtain ⟨b, rfl, h⟩ := h.of
  exact ⟨_, s1, by unfold eNot; rw [e1], h⟩
theorem z_neg (h : Ok (fa env st) fun d s1 => AsI d fun b => Q (.int (-b)) s1) : Ok (eNeg fa env st) Q := by
  obtain ⟨o, s1, e1, h⟩ := h
  obtain ⟨b, rfl, h⟩ := h.of
  exact ⟨_, s1, by unfold eNeg; rw [e1], h⟩
theorem z_bits (h : Ok (fa env st) fun d s1 => AsI d fun b => Q (.int (Builtin.Int.intBits b : Nat)) s1) : Ok (eBits fa env st) Q := by
  obtain ⟨o, s1, e1, h⟩ := h
  obtain ⟨b, rfl, h⟩ := h.of
  exact ⟨_, s1, by unfold eBits; rw [e1], h⟩
theorem z_eif {α : Type} {f g : Fx α} {Q : α → Sto → Prop} (h : Ok (ta env st) fun b s1 => if b = true then Ok (f env s1) Q else Ok (g env s1) Q) : Ok (eIf ta f g env st) Q := by
  obtain ⟨b, s1, e1, h⟩ := h
  cases b with
  | true =>
    obtain ⟨d, s2, e2, q⟩ := h
    exact ⟨d, s2, by unfold eIf; rw [e1]; exact e2, q⟩
  | false =>
    obtain ⟨d, s2, e2, q⟩ := h
    exact ⟨d, s2, by unfold eIf; rw [e1]; exact e2, q⟩
theorem t_of (h : Ok (fe env st) fun d s => AsB d fun b => QB b s) : Ok (bOf fe env st) QB := by
  obtain ⟨o, s1, e1, h⟩ := h
  obtain ⟨b, rfl, h⟩ := h.of
  exact ⟨_, s1, by unfold bOf; rw [e1], h⟩
theorem t_and (h : Ok (ta env st) fun b s => if b = true then Ok (tb env s) QB else QB false s) : Ok (bAnd ta tb env st) QB := by
  obtain ⟨b, s1, e1, h⟩ := h
  cases b with
  | true =>
    obtain ⟨d, s2, e2, q⟩ := h
    exact ⟨d, s2, by unfold bAnd; rw [e1]; exact e2, q⟩
  | false => exact ⟨_, s1, by unfold bAnd; rw [e1], h⟩
theorem t_or (h : Ok (ta env st) fun b s => if b = true then QB true s else Ok (tb env s) QB) : Ok (bOr ta tb env st) QB := by
  obtain ⟨b, s1, e1, h⟩ := h
  cases b with
  | false =>
    obtain ⟨d, s2, e2, q⟩ := h
    exact ⟨d, s2, by unfold bOr; rw [e1]; exact e2, q⟩
  | true => exact ⟨_, s1, by unfold bOr; rw [e1], h⟩
theorem t_not (h : Ok (ta env st) fun b s => QB (!b) s) : Ok (bNot ta env st) QB := by
  obtain ⟨b, s1, e1, h⟩ := h
  exact ⟨_, s1, by unfold bNot; rw [e1], h⟩
theorem z_slN {α : Type} {op : D → Option Int → Option Int → Sto → Option α} {lo hi : SO} {Q : α → Sto → Prop} (h : Ok (fe env st) fun x s1 => Ok (lo env s1) fun l s2 => Ok (hi env s2) fun u s3 => Od (op x l u s3) fun d => Q d s3) : Ok (eSl op fe lo hi env st) Q := by
  obtain ⟨x, s1, e1, l, s2, e2, u, s3, e3, d, e4, q⟩ := h
  exact ⟨d, s3, by unfold eSl; rw [e1]; dsimp only; rw [e2]; dsimp only; rw [e3]; dsimp only; rw [e4], q⟩
theorem z_oN {Q : Option Int → Sto → Prop} (h : Q none st) : Ok (oNone env st) Q := ⟨_, st, rfl, h⟩
theorem z_oS {Q : Option Int → Sto → Prop} (h : Ok (fe env st) fun d s => AsI d fun i => Q (some i) s) : Ok (oSome fe env st) Q := by
  obtain ⟨o, s1, e1, h⟩ := h
  obtain ⟨b, rfl, h⟩ := h.of
  exact ⟨_, s1, by unfold oSome; rw [e1], h⟩
/-! statements -/
variable {f g : SS}
theorem z_snil (h : QS (.nx env) st) : Ok (sNil env st) QS := ⟨_, st, rfl, h⟩
theorem z_seq (h : Ok (f env st) fun o s1 => match o with
    | .nx e => Ok (g e s1) QS
    | o => QS o s1) : Ok (sSeq f g env st) QS := by
  obtain ⟨o, s1, e1, h⟩ := h
  cases o with
  | nx e =>
    obtain ⟨d, s2, e2, q⟩ := h
    exact ⟨d, s2, by unfold sSeq; rw [e1]; exact e2, q⟩
  | rt d => exact ⟨_, s1, by unfold sSeq; rw [e1], h⟩
  | bk d => exact ⟨_, s1, by unfold sSeq; rw [e1], h⟩
  | ct d => exact ⟨_, s1, by unfold sSeq; rw [e1], h⟩
theorem z_set (h : Ok (fe env st) fun d s => QS (.nx (env.set i (.val d))) s) : Ok (sSet i fe env st) QS := by
  obtain ⟨d, s1, e1, h⟩ := h
  exact ⟨_, s1, by unfold sSet; rw [e1], h⟩
theorem z_own (h : Ok (fl env st) fun d s => QS (.nx (env.set i (.own d))) s) : Ok (sOwn i fl env st) QS := by
  obtain ⟨d, s1, e1, h⟩ := h
  exact ⟨_, s1, by unfold sOwn; rw [e1], h⟩
theorem z_ret (h : Ok (fe env st) fun d s => QS (.rt d) s) : Ok (sRet fe env st) QS := by
  obtain ⟨d, s1, e1, h⟩ := h
  exact ⟨_, s1, by unfold sRet; rw [e1], h⟩
theorem z_retC (h : Ok (fl env st) fun xs s => QS (.rt (.cell s.length)) (s ++ [xs])) : Ok (sRetC fl env st) QS := by
  obtain ⟨d, s1, e1, h⟩ := h
  exact ⟨_, _, by unfold sRetC; rw [e1], h⟩
theorem z_retO (e : env[i]? = some (.own xs)) (h : QS (.rt (.cell st.length)) (st ++ [xs])) : Ok (sRetO i env st) QS := ⟨_, _, by unfold sRetO; rw [e], h⟩
theorem z_drop (h : Ok (fe env st) fun _ s => QS (.nx env) s) : Ok (sDrop fe env st) QS := by
  obtain ⟨d, s1, e1, h⟩ := h
  exact ⟨_, s1, by unfold sDrop; rw [e1], h⟩
theorem z_sif (h : Ok (ta env st) fun b s1 => if b = true then Ok (f env s1) QS else Ok (g env s1) QS) : Ok (sIf ta f g env st) QS := by
  obtain ⟨b, s1, e1, h⟩ := h
  cases b with
  | true =>
    obtain ⟨d, s2, e2, q⟩ := h
    exact ⟨d, s2, by unfold sIf; rw [e1]; exact e2, q⟩
  | false =>
    obtain ⟨d, s2, e2, q⟩ := h
    exact ⟨d, s2, by unfold sIf; rw [e1]; exact e2, q⟩
theorem z_frz (h : Ok (f (frz i env) st) QS) : Ok (sFrz i f env st) QS := h
theorem z_app (h : Ok (fe env st) fun d s => ∃ xs, env[i]? = some (.own xs) ∧ xs.length < 1000000 ∧ QS (.nx (env.set i (.own (xs ++ [d])))) s) : Ok (sApp i fe env st) QS := by
  obtain ⟨d, s1, e1, xs, e2, l, h⟩ := h
  exact ⟨_, s1, by unfold sApp; rw [e1]; dsimp only; rw [e2]; dsimp only; rw [if_pos l], h⟩
theorem z_appC (h : Ok (fa env st) fun o s => AsK o fun k => (∃ ys, lcG s k = some ys) ∧ Ok (fe env s) fun d s2 => ∃ xs, lcG s2 k = some xs ∧ xs.length < 1000000 ∧ QS (.nx env) (s2.set k (xs ++ [d]))) : Ok (sAppC fa fe env st) QS := by
  obtain ⟨o, s1, e1, h⟩ := h
  obtain ⟨k, rfl, ⟨ys, e0⟩, d, s2, e2, xs, e3, l, q⟩ := h.of
  exact ⟨_, _, by unfold sAppC; rw [e1]; dsimp only; rw [e0]; dsimp only; rw [e2]; dsimp only; rw [e3]; dsimp only; rw [if_pos l], q⟩
theorem z_putC {fj : SE} (h : Ok (fe env st) fun d s1 => Ok (fa env s1) fun o s2 => AsK o fun k => Ok (fj env s2) fun j s3 => AsI j fun j => ∃ xs n, lcG s3 k = some xs ∧ ixN xs.length j = some n ∧ QS (.nx env) (s3.set k (xs.set n d))) : Ok (sPutC fa fj fe env st) QS := by
  obtain ⟨d, s1, e1, o, s2, e2, h⟩ := h
  obtain ⟨k, rfl, o, s3, e3, h⟩ := h.of
  obtain ⟨j, rfl, xs, n, e4, e5, q⟩ := h.of
  exact ⟨_, _, by unfold sPutC; rw [e1]; dsimp only; rw [e2]; dsimp only; rw [e3]; dsimp only; rw [e4]; dsimp only; rw [e5], q⟩
theorem z_for {fi : Fx Src} {asg : D → Env → Option Env} (h : Ok (fi env st) fun xs s1 => Ok (loopM xs.2 asg f xs.1 env s1) QS) : Ok (sFor fi asg f env st) QS := by
  obtain ⟨xs, s1, e1, o, s2, e2, q⟩ := h
  exact ⟨o, s2, by unfold sFor; rw [e1]; exact e2, q⟩
theorem z_lc {fi : Fx Src} {asg : D → Env → Option Env} {vs : List Nat} (h : Ok (fi env st) fun xs s1 => xs.1.length ≤ 1000000 ∧ Ok (compM xs.2 asg ta fe (wipeE env vs) xs.1 s1) QL) : Ok (lComp fi asg ta fe vs env st) QL := by
  obtain ⟨xs, s1, e1, l, o, s2, e2, q⟩ := h
  exact ⟨o, s2, by unfold lComp; rw [e1]; dsimp only; rw [if_pos l]; exact e2, q⟩
theorem z_yes (h : QB true st) : Ok (bYes env st) QB := ⟨_, st, rfl, h⟩
theorem z_kv {Q : Sl → Sto → Prop} (h : Ok (fe env st) fun d s => Q (.val d) s) : Ok (Kd.run (.val fe) env st) Q := by
  obtain ⟨d, s1, e1, h⟩ := h
  exact ⟨_, s1, by unfold Kd.run; dsimp only; rw [e1], h⟩
theorem z_ko {Q : Sl → Sto → Prop} (h : Ok (fl env st) fun d s => Q (.own d) s) : Ok (Kd.run (.own fl) env st) Q := by
  obtain ⟨d, s1, e1, h⟩ := h
  exact ⟨_, s1, by unfold Kd.run; dsimp only; rw [e1], h⟩
theorem z_par {j : Nat} {a b : Kd} (h : Ok (a.run env st) fun x s1 => Ok (b.run env s1) fun y s2 => i ≠ j ∧ QS (.nx ((env.set i x).set j y)) s2) : Ok (sPar i j a b env st) QS := by
  obtain ⟨x, s1, e1, y, s2, e2, n, q⟩ := h
  exact ⟨_, _, by unfold sPar; rw [e1]; dsimp only; rw [e2]; dsimp only; rw [if_neg n], q⟩
theorem z_unp {is : List Nat} (h : Ok (fe env st) fun d s => ∃ ds e, d = .tup ds ∧ setAll is ds env = some e ∧ QS (.nx e) s) : Ok (sUnp is fe env st) QS := by
  obtain ⟨d, s1, e1, ds, e, rfl, e2, q⟩ := h
  exact ⟨_, _, by unfold sUnp; rw [e1]; dsimp only; rw [e2], q⟩
theorem z_sfld {cn m : Str} (h : Ok (fe env st) fun d s => ∃ ns vs, env[i]? = some (.ownI cn ns vs) ∧ ns.length < 1000 ∧ QS (.nx (env.set i (.ownI cn (putD m d ns vs).1 (putD m d ns vs).2))) s) : Ok (sFld cn i m fe env st) QS := by
  obtain ⟨d, s1, e1, ns, vs, e2, l, q⟩ := h
  exact ⟨_, s1, by unfold sFld; rw [e1]; dsimp only; rw [e2]; dsimp only; rw [if_pos ⟨rfl, l⟩], q⟩
theorem z_fn {n m : Nat} {ds : List D} (hl : ds.length = n) (h : Ok (f (env0 m ds) st) fun o s => match o with
    | .rt d => Q d s
    | .nx _ => Q .non s
    | _ => False) : Ok (fnM n m f ds st) Q := by
  obtain ⟨o, s1, e1, h⟩ := h
  cases o with
  | nx e => exact ⟨_, s1, by unfold fnM; rw [if_pos hl, e1], h⟩
  | rt d => exact ⟨_, s1, by unfold fnM; rw [if_pos hl, e1], h⟩
  | bk d => exact h.elim
  | ct d => exact h.elim
/-! the sources of loops -/
variable {QI : Src → Sto → Prop}
theorem z_rg1 (h : Ok (fs env st) fun ds s => ∃ j, ds = [.int j] ∧ inR j = true ∧ QI (rangeD 0 1 j.toNat, noChk) s) : Ok (iRg1 fs env st) QI := by
  obtain ⟨ds, s1, e1, j, rfl, r, q⟩ := h
  exact ⟨_, s1, by unfold iRg1; rw [e1]; dsimp only; rw [if_pos r], q⟩
theorem z_seqI (h : Ok (fe env st) fun d s => ∃ xs, (d = .lst xs ∨ d = .tup xs) ∧ QI (xs, noChk) s) : Ok (iSeq fe env st) QI := by
  obtain ⟨d, s1, e1, xs, rfl | rfl, q⟩ := h
  · exact ⟨_, s1, by unfold iSeq; rw [e1], q⟩
  · exact ⟨_, s1, by unfold iSeq; rw [e1], q⟩
theorem z_rg2 (h : Ok (fs env st) fun ds s => ∃ i j, ds = [.int i, .int j] ∧ inR i = true ∧ inR j = true ∧ QI (rangeD i 1 (j - i).toNat, noChk) s) : Ok (iRg2 fs env st) QI := by
  obtain ⟨ds, s1, e1, i, j, rfl, r, r', q⟩ := h
  exact ⟨_, s1, by unfold iRg2; rw [e1]; dsimp only; rw [if_pos ⟨r, r'⟩], q⟩
end
section
variable {s : Sto} {Q : D → Prop} {i j : Int}
theorem u_add (h : Q (.int (i + j))) : Od (oAdd (.int i) (.int j) s) Q := ⟨_, rfl, h⟩
theorem u_sub (h : Q (.int (i - j))) : Od (oSub (.int i) (.int j) s) Q := ⟨_, rfl, h⟩
theorem u_mul (c : mulC i j = true) (h : Q (.int (i * j))) : Od (oMul (.int i) (.int j) s) Q := ⟨_, if_pos c, h⟩
theorem u_mod (c : 0 < j) (h : Q (.int (i % j))) : Od (oMod (.int i) (.int j) s) Q := ⟨_, if_pos (decide_eq_true c), h⟩
theorem u_div (c : divC i j = true) (h : Q (.int (i / j))) : Od (oDiv (.int i) (.int j) s) Q := ⟨_, if_pos c, h⟩
theorem u_pow (c : powC i j = true) (h : Q (.int (i ^ j.toNat))) : Od (oPow (.int i) (.int j) s) Q := ⟨_, if_pos c, h⟩
theorem u_lt (h : Q (.bl (decide (i < j)))) : Od (oLt (.int i) (.int j) s) Q := ⟨_, rfl, h⟩
theorem u_le (h : Q (.bl (decide (i ≤ j)))) : Od (oLe (.int i) (.int j) s) Q := ⟨_, rfl, h⟩
theorem u_gt (h : Q (.bl (decide (j < i)))) : Od (oGt (.int i) (.int j) s) Q := ⟨_, rfl, h⟩
theorem u_ge (h : Q (.bl (decide (j ≤ i)))) : Od (oGe (.int i) (.int j) s) Q := ⟨_, rfl, h⟩
theorem u_eq {x y : D} {p q : PyData} (hx : toPy 60 s x = some p) (hy : toPy 60 s y = some q) (h : Q (.bl (PyData.eqv p q))) : Od (oEq x y s) Q := ⟨_, by unfold oEq; rw [hx, hy], h⟩
theorem u_ne {x y : D} {p q : PyData} (hx : toPy 60 s x = some p) (hy : toPy 60 s y = some q) (h : Q (.bl (!PyData.eqv p q))) : Od (oNe x y s) Q := ⟨_, by unfold oNe; rw [hx, hy], h⟩
theorem u_isN {x : D} (h : Q (.bl (isNonD x))) : Od (oIsN x .non s) Q := ⟨_, rfl, h⟩
theorem u_notN {x : D} (h : Q (.bl (!isNonD x))) : Od (oNotN x .non s) Q := ⟨_, rfl, h⟩
theorem u_ixT {xs : List D} {d : D} (e : atI xs i = some d) (h : Q d) : Od (oIx (.tup xs) (.int i) s) Q := ⟨_, e, h⟩
theorem u_ixL {xs : List D} {d : D} (e : atI xs i = some d) (h : Q d) : Od (oIx (.lst xs) (.int i) s) Q := ⟨_, e, h⟩
theorem u_ixC {xs : List D} {d : D} {k : Nat} (hk : lcG s k = some xs) (e : atI xs i = some d) (h : Q d) : Od (oIx (.cell k) (.int i) s) Q := ⟨d, by show (match lcG s k with | some xs => atI xs i | none => none) = _; rw [hk]; exact e, h⟩
theorem u_now {α : Type} {o : Option α} {a : α} {Q : α → Prop} (e : o = some a) (h : Q a) : Od o Q := ⟨a, e, h⟩
end
theorem inR_t {i : Int} (h : -(2 ^ 62) ≤ i) (h' : i < 2 ^ 62) : inR i = true := by
  unfold inR
  rw [decide_eq_true h, decide_eq_true h']
  rfl
theorem mulC_r {i j : Int} (h : -(2 ^ 64) < j) (h' : j < 2 ^ 64) : mulC i j = true := by
  unfold mulC
  rw [decide_eq_true h, decide_eq_true h']
  simp
theorem mulC_l {i j : Int} (h : -(2 ^ 64) < i) (h' : i < 2 ^ 64) : mulC i j = true := by
  unfold mulC
  rw [decide_eq_true h, decide_eq_true h']
  simp
theorem divC_t {i j : Int} (h : 0 < j) (h' : j.natAbs < 2 ^ 9000) : divC i j = true := by
  unfold divC
  rw [decide_eq_true h, decide_eq_true ((Nat.log2_lt (by omega)).mpr h')]
  rfl
theorem divC_s {i j : Int} (h : 0 < j) (h' : j < 2 ^ 100) : divC i j = true :=
  divC_t h (Nat.lt_of_lt_of_le (m := 2 ^ 100) (by omega) (Nat.pow_le_pow_right (by decide) (by decide)))
theorem loop_inv {chk : Sto → Bool} {asg : D → Env → Option Env} {body : SS} (I : Nat → Env → Sto → Prop) : ∀ (xs : List D) (n : Nat) (env : Env) (st : Sto), I n env st →
    (∀ (i : Nat) (x : D) (e : Env) (s : Sto), xs[i]? = some x → I (n + i) e s → chk s = true ∧ ∃ e1, asg x e = some e1 ∧ Ok (body e1 s) fun o s2 => ∃ e2, (o = .nx e2 ∨ o = .ct e2) ∧ I (n + i + 1) e2 s2) → (∀ e s, I (n + xs.length) e s → chk s = true) →
    Ok (loopM chk asg body xs env st) fun o s' => ∃ e', o = .nx e' ∧ I (n + xs.length) e' s'
  | [], n, env, st, h, _, hc => ⟨_, st, by unfold loopM; rw [if_pos (hc _ _ h)], env, rfl, h⟩
  | x :: xs, n, env, st, h, hs, hc => by
    obtain ⟨c, e1, a1, o, s2, b, e2, ho, h2⟩ := hs 0 x env st rfl h
    obtain ⟨o', s', r, e', rfl, q⟩ := loop_inv I xs (n + 1) e2 s2 h2 (fun i y e s hi z => by
      have := hs (i + 1) y e s hi (by rwa [show n + (i + 1) = n + 1 + i by omega])
      rwa [show n + (i + 1) + 1 = n + 1 + i + 1 by omega] at this) (fun e s z => hc e s (by rwa [List.length_cons, show n + (xs.length + 1) = n + 1 + xs.length by omega]))
    refine ⟨_, s', ?_, e', rfl, by rwa [List.length_cons, show n + (xs.length + 1) = n + 1 + xs.length by omega]⟩
    unfold loopM
    rw [if_pos c, a1]
    dsimp only
    rw [b]
    rcases ho with rfl | rfl
    · exact r
    · exact r
/-- a comprehension whose store does not change -/
theorem comp_map {chk : Sto → Bool} {asg : D → Env → Option Env} {cond : SB} {elt : SE} {env0 : Env} {st : Sto} (p : D → Bool) (f : D → D) (hc : chk st = true) : ∀ (xs : List D),
    (∀ x ∈ xs, ∃ e1, asg x env0 = some e1 ∧ cond e1 st = some (p x, st) ∧ (p x = true → elt e1 st = some (f x, st))) → compM chk asg cond elt env0 xs st = some ((xs.filter p).map f, st)
  | [], _ => by unfold compM; rw [if_pos hc]; rfl
  | x :: xs, h => by
    obtain ⟨e1, a, c, e⟩ := h x (List.mem_cons_self ..)
    have ih := comp_map p f hc xs fun y hy => h y (List.mem_cons_of_mem _ hy)
    unfold compM
    rw [if_pos hc, a]
    dsimp only
    rw [c]
    cases hp : p x with
    | false =>
      dsimp only
      rw [ih, List.filter_cons_of_neg (by simp [hp])]
    | true =>
      dsimp only
      rw [e hp]
      dsimp only
      rw [ih, List.filter_cons_of_pos hp]
      rfl
end LW

/-! LwQ: how a mirror runs, II: comprehensions, makers, lists. -/
namespace LW
open PySem L2
theorem comp_inv {chk : Sto → Bool} {asg : D → Env → Option Env} {cond : SB} {elt : SE} {env0 : Env} (I : List D → Sto → Prop) : ∀ (xs : List D) (acc : List D) (st : Sto), I acc st →
    (∀ x ∈ xs, ∀ acc s, I acc s → ∃ e1, asg x env0 = some e1 ∧ Ok (cond e1 s) fun b s1 => if b = true then Ok (elt e1 s1) fun y s2 => I (acc ++ [y]) s2 else I acc s1) → (∀ acc s, I acc s → chk s = true) →
    Ok (compM chk asg cond elt env0 xs st) fun ys s => I (acc ++ ys) s
  | [], acc, st, h, _, hc => ⟨_, st, by unfold compM; rw [if_pos (hc _ _ h)], by rw [List.append_nil]; exact h⟩
  | x :: xs, acc, st, h, hs, hc => by
    obtain ⟨e1, a1, b, s1, hb, h1⟩ := hs x (List.mem_cons_self ..) acc st h
    cases b with
    | false =>
      obtain ⟨ys, s2, r, q⟩ := comp_inv I xs acc s1 h1 (fun y hy => hs y (List.mem_cons_of_mem _ hy)) hc
      exact ⟨ys, s2, by unfold compM; rw [if_pos (hc _ _ h), a1]; dsimp only; rw [hb]; exact r, q⟩
    | true =>
      obtain ⟨y, s2, hy, h2⟩ := h1
      obtain ⟨ys, s3, r, q⟩ := comp_inv I xs (acc ++ [y]) s2 h2 (fun y hy => hs y (List.mem_cons_of_mem _ hy)) hc
      refine ⟨y :: ys, s3, ?_, by rw [List.append_assoc] at q; exact q⟩
      unfold compM
      rw [if_pos (hc _ _ h), a1]
      dsimp only
      rw [hb]
      dsimp only
      rw [hy]
      dsimp only
      rw [r]
theorem comp_all {chk : Sto → Bool} {asg : D → Env → Option Env} {cond : SB} {elt : SE} {env0 : Env} {st : Sto} (p : D → Bool) (f : D → D) (hc : chk st = true) (xs : List D)
    (h : ∀ x ∈ xs, ∃ e1, asg x env0 = some e1 ∧ Ok (cond e1 st) (fun b s => b = p x ∧ s = st) ∧ (p x = true → Ok (elt e1 st) fun y s => y = f x ∧ s = st)) {Q : List D → Sto → Prop} (hq : Q ((xs.filter p).map f) st) : Ok (compM chk asg cond elt env0 xs st) Q :=
  ⟨_, _, comp_map p f hc xs fun x hx => by
    obtain ⟨e1, a, c, e⟩ := h x hx
    exact ⟨e1, a, c.eq, fun z => (e z).eq⟩, hq⟩
/-- a list of whole numbers, as data or as a cell -/
def IsL (s : Sto) (d : D) (cs : List Int) : Prop := d = .lst (cs.map D.int) ∨ ∃ j, d = .cell j ∧ s[j]? = some (cs.map D.int)
theorem noTag_ints {cs : List Int} : isTag (cs.map D.int) = false := by cases cs <;> rfl
theorem lcG_ints {s : Sto} {j : Nat} {cs : List Int} (e : s[j]? = some (cs.map D.int)) : lcG s j = some (cs.map D.int) := lcG_of e noTag_ints
theorem IsL.get {s : Sto} {d : D} {cs : List Int} (h : IsL s d cs) : lstR s d = some (cs.map D.int) := by
  rcases h with rfl | ⟨j, rfl, e⟩
  · rfl
  · exact lcG_ints e
theorem IsL.ints {s : Sto} {d : D} {cs : List Int} (h : IsL s d cs) : lstI s d = some cs := by
  unfold lstI
  rw [h.get]
  exact intsOf_map _
theorem IsL.ty {s : Sto} {d : D} {cs : List Int} (h : IsL s d cs) : ty7 s d = some .lst := by
  rcases h with rfl | ⟨j, rfl, e⟩
  · rfl
  · show (match lcG s j with | some _ => some Ty7.lst | none => none) = _
    rw [lcG_ints e]
theorem IsL.lst {s : Sto} {cs : List Int} : IsL s (.lst (cs.map D.int)) cs := .inl rfl
theorem IsL.cell {s : Sto} {j : Nat} {cs : List Int} (h : s[j]? = some (cs.map D.int)) : IsL s (.cell j) cs := .inr ⟨j, rfl, h⟩
theorem py_ints {n : Nat} {st : Sto} : ∀ (cs : List Int), mapO (toPy (n + 1) st) (cs.map D.int) = some (cs.map PyData.int)
  | [] => rfl
  | c :: cs => by
    unfold mapO
    rw [List.map_cons]
    dsimp only
    have e : toPy (n + 1) st (.int c) = some (.int c) := by unfold toPy; rfl
    rw [e]
    dsimp only
    rw [py_ints cs]
    rfl
theorem IsL.py {s : Sto} {d : D} {cs : List Int} {n : Nat} (h : IsL s d cs) : toPy (n + 2) s d = some (.list (cs.map PyData.int)) := by
  rcases h with rfl | ⟨j, rfl, e⟩
  · unfold toPy
    dsimp only
    rw [py_ints]
  · unfold toPy
    dsimp only
    rw [lcG_ints e]
    dsimp only
    rw [py_ints]
section
variable {env : Env} {st s : Sto} {fe : SE} {fs : SA} {QI : Src → Sto → Prop} {Q : D → Prop} {f : SS} {d : D} {cs : List Int} {i : Int}
theorem z_rg3 (h : Ok (fs env st) fun ds s => ∃ i j k, ds = [.int i, .int j, .int k] ∧ ((k ≠ 0 ∧ k.natAbs < 1073741824) ∧ Builtin.Range.small i j k = true ∧ Builtin.Range.rangeSize i j k = ((Builtin.Range.rangeSize i j k).toNat : Int)) ∧ QI (rangeD i k (Builtin.Range.rangeSize i j k).toNat, noChk) s) : Ok (iRg3 fs env st) QI := by
  obtain ⟨ds, s1, e1, i, j, k, rfl, r, q⟩ := h
  exact ⟨_, s1, by unfold iRg3; rw [e1]; dsimp only; rw [if_pos r], q⟩
theorem z_init {cn : Str} {n m : Nat} {ds : List D} {Q : List Str × List D → Sto → Prop} (hl : ds.length = n) (h : Ok (f (.ownI cn [] [] :: env0 (m - 1) ds) st) fun o s => match o with
    | .nx e => ∃ r, fldsOf cn e[0]? = some r ∧ Q r s
    | _ => False) : Ok (initM cn n m f ds st) Q := by
  obtain ⟨o, s1, e1, h⟩ := h
  cases o with
  | nx e =>
    obtain ⟨r, e2, q⟩ := h
    refine ⟨r, s1, ?_, q⟩
    unfold initM
    rw [if_pos hl, e1]
    dsimp only
    rw [e2]
  | rt d => exact h.elim
  | bk d => exact h.elim
  | ct d => exact h.elim
end
end LW

/-! LwR: repr of numbers and lists, as mirrors see it. -/
namespace LW
open PySem L2
theorem strOk_of (s : String) : PyData.strOk (Str.ofString s) = true := by
  unfold PyData.strOk
  rw [Str.ofString_eq_toList, List.all_toArray, List.all_eq_true]
  intro n hn
  obtain ⟨c, _, rfl⟩ := List.mem_map.mp hn
  have h := c.valid
  refine decide_eq_true ?_
  rcases h with h | h
  · exact Nat.lt_trans h (by decide)
  · exact h.2
theorem strOk_app {a b : Str} (h : PyData.strOk a = true) (h' : PyData.strOk b = true) : PyData.strOk (a ++ b) = true := by
  unfold PyData.strOk at h h' ⊢
  rw [Str.cps_append, Array.all_append, h, h']
  rfl
theorem strOk_text : ∀ (ts : List Str) (k : Nat) (acc : Str), PyData.strOk acc = true → (∀ t ∈ ts, PyData.strOk t = true) → PyData.strOk (textFrom k acc ts) = true
  | [], k, acc, h, _ => h
  | t :: ts, k, acc, h, ht => strOk_text ts (k + 1) _ (strOk_app (strOk_app h (strOk_of _)) (ht t (List.mem_cons_self ..))) fun u hu => ht u (List.mem_cons_of_mem _ hu)
theorem strOk_list {ts : List Str} (h : ∀ t ∈ ts, PyData.strOk t = true) : PyData.strOk (listText ts) = true := strOk_app (strOk_text ts 0 _ (strOk_of _) h) (strOk_of _)
structure Sh (p : PyData) (n : Nat) : Prop where
  sh : p.showable = true
  ln : p.shown.length ≤ n
  ok : PyData.strOk p.shown = true
theorem sh_int {i : Int} (h : i.natAbs < 10 ^ 12) : Sh (.int i) 13 where
  sh := by
    unfold PyData.showable
    by_cases h0 : i.natAbs = 0
    · rw [h0]
      exact decide_eq_true (by decide)
    · exact decide_eq_true ((Nat.log2_lt h0).mpr (Nat.lt_of_lt_of_le h (Nat.le_trans (m := 2 ^ 40) (by decide) (Nat.pow_le_pow_right (by decide) (by decide)))))
  ln := PyData.shown_int_le h
  ok := by
    unfold PyData.shown
    exact strOk_of _
theorem sh_all {n : Nat} : ∀ (xs : List PyData), (∀ x ∈ xs, Sh x n) → PyData.showableAll xs = true ∧ ((PyData.shownAll xs).map (·.length)).sum ≤ n * xs.length ∧ (PyData.shownAll xs).length = xs.length ∧ ∀ t ∈ PyData.shownAll xs, PyData.strOk t = true
  | [], _ => ⟨by unfold PyData.showableAll; rfl, by unfold PyData.shownAll; simp, by unfold PyData.shownAll; rfl, by unfold PyData.shownAll; intro t h; cases h⟩
  | x :: xs, h => by
    obtain ⟨h1, h2, h3, h4⟩ := sh_all xs fun y hy => h y (List.mem_cons_of_mem _ hy)
    have hx := h x (List.mem_cons_self ..)
    unfold PyData.showableAll PyData.shownAll
    refine ⟨by rw [hx.sh, h1]; rfl, ?_, by rw [List.length_cons, List.length_cons, h3], ?_⟩
    · rw [List.map_cons, List.sum_cons, List.length_cons, Nat.mul_add]
      have := hx.ln
      omega
    · intro t ht
      rcases List.mem_cons.mp ht with rfl | ht
      · exact hx.ok
      · exact h4 t ht
theorem sh_list {n : Nat} {xs : List PyData} (h : ∀ x ∈ xs, Sh x n) : Sh (.list xs) ((n + 2) * xs.length + 3) := by
  obtain ⟨h1, h2, h3, h4⟩ := sh_all xs h
  refine ⟨by unfold PyData.showable; exact h1, ?_, by unfold PyData.shown; exact strOk_list h4⟩
  unfold PyData.shown
  have := listText_len_le (PyData.shownAll xs)
  rw [h3] at this
  rw [Nat.add_mul]
  omega
theorem sh_mono {p : PyData} {n m : Nat} (h : Sh p n) (hm : n ≤ m) : Sh p m := ⟨h.sh, Nat.le_trans h.ln hm, h.ok⟩
section
variable {s : Sto} {Q : D → Prop} {d : D} {p : PyData} {n : Nat} {x : Str}
theorem u_repr (hp : toPy 60 s d = some p) (h : Sh p n) (hn : n ≤ 1000000) (q : Q (.str p.shown)) : Od (gRepr [d] s) Q := by
  refine ⟨_, ?_, q⟩
  unfold gRepr
  dsimp only
  rw [hp]
  dsimp only
  rw [if_pos ⟨h.sh, Nat.le_trans h.ln hn⟩]
theorem py_str (h : PyData.strOk x = true) {k : Nat} : toPy (k + 1) s (.str x) = some (.str x) := by
  unfold toPy
  dsimp only
  rw [if_pos h]
theorem u_neS (h : PyData.strOk x = true) (q : Q (.bl false)) : Od (oNe (.str x) (.str x) s) Q := by
  refine u_ne (py_str h) (py_str h) ?_
  have e : PyData.eqv (.str x) (.str x) = true := by
    unfold PyData.eqv
    exact beq_self_eq_true x
  rw [e]
  exact q
end
end LW

/-! LwS: more words: int(..), a <= b <= c, whole numbers of the module, enumerate. -/
namespace LW
open PySem L2 PyProof.Rows
/-! ### int(x) -/
section
variable {mg : Glob} {X : Cx} {e : Expr} {es : List Expr} {p pos : Pos} {f : SA}
end
/-! ### whole numbers of the module -/
/-! ### a op b op c -/
def eChn (p q : Int → Int → Bool) (fa fb fc : SE) : SE := fun env st => match fa env st with
  | some (.int i, s1) => match fb env s1 with
    | some (.int j, s2) => if p i j = true then (match fc env s2 with
      | some (.int k, s3) => some (.bl (q j k), s3)
      | _ => none) else some (.bl false, s2)
    | _ => none
  | _ => none
section
variable {mg : Glob} {X : Cx} {a b c : Expr} {fa fb fc : SE} {p q : Int → Int → Bool} {o o' : CmpOp} {pos : Pos}
theorem r_chn {σ : L2.St} {H : Hp} {Q : VK} (h : tE mg (eChn p q fa fb fc) σ H Q) : tChain (rI0 fun i j => .bl (p i j)) (rI0 fun i j => .bl (q i j)) (tP mg fa) (tP mg fb) (tP mg fc) σ H Q := by
  obtain ⟨E, N, c, env, st, d, st', R, z, k⟩ := h
  unfold eChn at z
  split at z
  · rename_i i s1 z1
    split at z
    · rename_i j s2 z2
      refine ⟨E, N, c, env, st, _, _, R, z1, fun v N1 c1 H1 x1 W1 r1 => ?_⟩
      have R1 := R.ex x1 W1
      refine ⟨E, N1, c1, env, s1, _, _, R1, z2, fun u N2 c2 H2 x2 W2 r2 => ?_⟩
      have R2 := R1.ex x2 W2
      refine ⟨i, j, r1.int, r2.int, _, rfl, ?_⟩
      split at z
      · rename_i hp
        split at z
        · rename_i l s3 z3
          cases z
          rw [if_pos hp]
          refine ⟨E, N2, c2, env, s2, _, _, R2, z3, fun w N3 c3 H3 x3 W3 r3 => ?_⟩
          exact ⟨j, l, r2.int, r3.int, k _ N3 c3 H3 ((x1.trans x2 R.wd).trans x3 R.wd) W3 (.bl _)⟩
        · cases z
      · rename_i hp
        cases z
        rw [if_neg hp]
        exact k _ N2 c2 H2 (x1.trans x2 R.wd) W2 (.bl _)
    · cases z
  · cases z
theorem d_chn (ho : OpR X (compareOp o) (rI0 fun i j => .bl (p i j))) (ho' : OpR X (compareOp o') (rI0 fun i j => .bl (q i j))) (ha : PE X a (tP mg fa)) (hb : PE X b (tP mg fb)) (hc : PE X c (tP mg fc)) (hm : lastMarks [o, o'] [b, c] = false := by with_unfolding_all rfl) :
    PE X (.Compare a [o, o'] [b, c] pos) (tE mg (eChn p q fa fb fc)) := pe_weak (pe_chain ho ho' ha hb hc hm) fun _ _ _ h => r_chn h
end
/-! ### enumerate(list) -/
section
variable {mg : Glob} {X : Cx} {e : Expr} {elts : List Expr} {kk : Nat} {p pos tpos : Pos} {f : SA}
end
end LW

/-! LwT: sorted(set(list of whole numbers)). -/
namespace LW
open PySem L2 PySem.Spec PyProof.Rows
section
variable {P : Program} {w : World} {A : Around} {E : Value → Shared → Prop} {s : Shared}
end
end LW

/-! LwU: sorted(set(..)) as a reading and as plain data. -/
namespace LW
open PySem L2 PySem.Spec PyProof.Rows
/-! ### the plain word -/
/-! ### the reading -/
section
variable {X : Cx}
end
/-! ### and as data -/
end LW

/-! LwV: sorted(list of whole numbers). -/
namespace LW
open PySem L2 PySem.Spec PyProof.Rows
section
variable {mg : Glob} {X : Cx} {e : Expr} {es : List Expr} {p pos : Pos} {f : SA}
end
end LW

/-! LwW: sorted(set(..)) of longer lists with few members; xs[::-1]. -/
namespace LW
open PySem L2 PySem.Spec PyProof.Rows
section
variable {X : Cx}
end
/-! ### xs[::-1] -/
end LW

/-! LwX: a, b, c = x, y, z. -/
namespace LW
open PySem L2 PySem.Spec PyProof.Rows
def sPar3 (i j l : Nat) (fa fb fc : SE) : SS := fun env st => match fa env st with
  | some (x, s1) => match fb env s1 with
    | some (y, s2) => match fc env s2 with
      | some (z, s3) => some (.nx (((env.set i (.val x)).set j (.val y)).set l (.val z)), s3)
      | none => none
    | none => none
  | none => none
section
variable {mg : Glob} {X : Cx} {a b c : Expr} {pos : Pos} {fa fb fc : SE}
end
theorem z_par3 {i j l : Nat} {fa fb fc : SE} {env : LW.Env} {st : Sto} {QS : Out → Sto → Prop} (h : Ok (fa env st) fun x s1 => Ok (fb env s1) fun y s2 => Ok (fc env s2) fun z s3 => QS (.nx (((env.set i (.val x)).set j (.val y)).set l (.val z))) s3) : Ok (sPar3 i j l fa fb fc env st) QS := by
  obtain ⟨x, s1, e1, y, s2, e2, z, s3, e3, q⟩ := h
  exact ⟨_, s3, by unfold sPar3; rw [e1]; dsimp only; rw [e2]; dsimp only; rw [e3], q⟩
end LW

/-! LwYa: texts: in, walks over signs, sorted; insert; where a recursion ends. -/
namespace LW
open PySem L2 PyProof.Rows PySem.Spec
/-! ### texts in lists -/
def strsOf : List D → Option (List Str)
  | [] => some []
  | .str x :: r => (match strsOf r with
    | some xs => some (x :: xs)
    | none => none)
  | _ => none
theorem strsOf_eq : ∀ {xs : List D} {zs : List Str}, strsOf xs = some zs → xs = zs.map D.str
  | [], _, e => by cases e; rfl
  | d :: r, zs, e => by
    cases d with
    | str x =>
      unfold strsOf at e
      split at e
      · rename_i ys h
        cases e
        rw [strsOf_eq h]
        rfl
      · cases e
    | _ => cases e
theorem strsOf_map : ∀ (zs : List Str), strsOf (zs.map D.str) = some zs
  | [] => rfl
  | z :: r => by
    show (match strsOf (r.map D.str) with | some xs => some (z :: xs) | none => none) = _
    rw [strsOf_map r]
section
variable {mg : Glob} {N : Prot} {c : List Addr} {H : Hp} {st : Sto} {u : V} {x : D}
theorem RepL.strs : ∀ (zs : List Str), RepL mg N c H (zs.map V.str) (zs.map D.str)
  | [] => .nil
  | z :: r => .cons (.str z) (RepL.strs r)
theorem RepL.of_strs : ∀ {zs : List Str} {vs : List V}, RepL mg N c H vs (zs.map D.str) → vs = zs.map V.str
  | [], _, .nil => rfl
  | z :: r, _, .cons (.str _) t => by rw [RepL.of_strs t]; rfl
end
def lstS (st : Sto) (x : D) : Option (List Str) := match lstR st x with
  | some xs => strsOf xs
  | none => none
theorem RepT.strs {mg : Glob} {N : Prot} {c : List Addr} {H : Hp} {st : Sto} {u : V} {x : D} {zs : List Str} (W : Wd mg N c H st) (h : RepT mg N c H u x) (e : lstS st x = some zs) : ∃ a, u = .ref a ∧ SqL mg.K H a (zs.map V.str) := by
  unfold lstS at e
  split at e
  · rename_i xs hx
    obtain ⟨a, vs, rfl, ha, r⟩ := RepT.read W h hx
    rw [strsOf_eq e] at r
    rw [r.of_strs] at ha
    exact ⟨a, rfl, ha⟩
  · cases e
/-! ### in -/
/-- a text in a tuple of texts -/
def oInT (neg : Bool) : D → D → Sto → Option D := fun x y _ => match x, y with
  | .str z, .tup ys => (match strsOf ys with
    | some zs => some (.bl (if neg then !decide (z ∈ zs) else decide (z ∈ zs)))
    | none => none)
  | _, _ => none
theorem any_eqV {z : Str} : ∀ (zs : List Str), inV (.str z) (zs.map V.str) = decide (z ∈ zs)
  | [] => rfl
  | y :: r => by
    have ih := any_eqV (z := z) r
    unfold inV at ih ⊢
    rw [List.map_cons, List.any_cons, ih]
    show ((y == z) || decide (z ∈ r)) = _
    by_cases e : y = z
    · subst e; simp
    · have e2 : ¬ z = y := fun q => e q.symm
      simp [e, e2]
theorem all_flat : ∀ (zs : List Str), (zs.map V.str).all flatV = true
  | [] => rfl
  | z :: r => by
    rw [List.map_cons, List.all_cons, all_flat r]
    rfl
theorem ok_inT {mg : Glob} {neg : Bool} : OpOk mg (RE mg) (rIn mg.K neg) (oInT neg) := by
  intro N c H st u v x y d Q W p1 p2 e k
  unfold oInT at e
  split at e
  · rename_i z ys
    split at e
    · rename_i zs hz
      cases e
      obtain ⟨a, vs, rfl, ha, r⟩ := p2.tup
      rw [strsOf_eq hz] at r
      have ev := r.of_strs
      subst ev
      refine ⟨a, _, rfl, .inr (SqT.of ha), by rw [p1.str]; rfl, all_flat _, ?_⟩
      rw [p1.str, any_eqV]
      exact k _ N c H Ex.refl W (.bl _)
    · cases e
  · cases e
/-- one sign in a text -/
def oInS (neg : Bool) : D → D → Sto → Option D := fun x y _ => match x, y with
  | .str z, .str t => (match z.cps.toList with
    | [ch] => some (.bl (if neg then !decide (ch ∈ t.cps.toList) else decide (ch ∈ t.cps.toList)))
    | _ => none)
  | _, _ => none
theorem one_sign {z : Str} {ch : Nat} (h : z.cps.toList = [ch]) : z = ⟨#[ch]⟩ := by
  cases z with
  | mk a =>
    congr 1
    exact Array.toList_inj.mp h
theorem ok_inS {mg : Glob} : OpOk mg (RE mg) (fun x y H Q => ∃ (c : Nat) (z : Str), x = .str ⟨#[c]⟩ ∧ y = .str z ∧ Q (.bl (decide (c ∈ z.cps.toList))) H) (oInS false) := by
  intro N c H st u v x y d Q W p1 p2 e k
  unfold oInS at e
  split at e
  · rename_i z t
    split at e
    · rename_i ch hc
      cases e
      exact ⟨ch, t, by rw [p1.str, one_sign hc], p2.str, k _ N c H Ex.refl W (.bl _)⟩
    · cases e
  · cases e
theorem ok_ninS {mg : Glob} : OpOk mg (RE mg) (fun x y H Q => ∃ (c : Nat) (z : Str), x = .str ⟨#[c]⟩ ∧ y = .str z ∧ Q (.bl (!decide (c ∈ z.cps.toList))) H) (oInS true) := by
  intro N c H st u v x y d Q W p1 p2 e k
  unfold oInS at e
  split at e
  · rename_i z t
    split at e
    · rename_i ch hc
      cases e
      exact ⟨ch, t, by rw [p1.str, one_sign hc], p2.str, k _ N c H Ex.refl W (.bl _)⟩
    · cases e
  · cases e
section
variable {mg : Glob} {X : Cx} {a b : Expr} {pos : Pos} {fa fb : SE}
theorem d_inT (ha : PE X a (tP mg fa)) (hb : PE X b (tP mg fb)) (hK : X.K = mg.K := by rfl) (hn : lastMarks [.In] [b] = false := by rfl) : PE X (.Compare a [.In] [b] pos) (tE mg (eOp (oInT false) fa fb)) := d_cmp (hK ▸ op_in_seq) ok_inT back_E ha hb hn
theorem d_inS (ha : PE X a (tP mg fa)) (hb : PE X b (tP mg fb)) (hn : lastMarks [.In] [b] = false := by rfl) : PE X (.Compare a [.In] [b] pos) (tE mg (eOp (oInS false) fa fb)) := d_cmp op_in_sign ok_inS back_E ha hb hn
theorem d_ninS (ha : PE X a (tP mg fa)) (hb : PE X b (tP mg fb)) (hn : lastMarks [.NotIn] [b] = false := by rfl) : PE X (.Compare a [.NotIn] [b] pos) (tE mg (eOp (oInS true) fa fb)) := d_cmp op_notIn_sign ok_ninS back_E ha hb hn
end
/-! ### a text of the module; walks over signs -/
def GS (mg : Str → Option Value) (x : Str) (z : Str) : Prop := ∃ t, mg x = some (.str z t)
theorem d_gstr {mg : Glob} {X : Cx} {x z : Str} {pos : Pos} (h : GS X.mg x z) (hg : Gl X x := by rfl) (hd : (x == ("__debug__" : Str)) = false := by decide) : PE X (.Name x pos) (tE mg (eC (.str z))) := by
  obtain ⟨t, h⟩ := h
  exact d_glob (v := .str z) hg h ⟨t, rfl⟩ (fun _ _ _ => .str z) hd
def signsD (x : Str) : List D := x.cps.toList.map fun ch => D.str ⟨#[ch]⟩
def iSgn (f : SE) : Fx Src := fun env st => match f env st with
  | some (.str x, s1) => some ((signsD x, noChk), s1)
  | _ => none
theorem il_str {mg : Glob} {N : Prot} {c : List Addr} {H : Hp} {x : Str} : ItL mg (Its x) (signsD x, noChk) N c H where
  stop := fun N' c' H' st _ _ _ => by
    show x.cps.size ≤ (signsD x).length
    unfold signsD
    rw [List.length_map, Array.length_toList]
    exact Nat.le_refl _
  go := fun i N' c' H' st hi _ _ _ => by
    show i < x.cps.size
    have : i < (signsD x).length := hi
    unfold signsD at this
    rwa [List.length_map, Array.length_toList] at this
  yld := fun i N' c' H' st v H2 hi _ W _ y => by
    obtain ⟨rfl, ch, hc, rfl⟩ := y
    refine ⟨_, ?_, Ex.refl, W, .str ⟨#[ch]⟩⟩
    show (signsD x)[i]? = _
    unfold signsD
    rw [List.getElem?_map, Array.getElem?_toList, hc]
    rfl
theorem i_str {mg : Glob} {X : Cx} {tg e : Expr} {f : SE} (he : PE X e (tP mg f)) : PI X tg e (tI mg (iSgn f)) := pi_weak (pi_str he) fun σ H R ⟨E, N, c, env, st, xs, st', Rl, q, k⟩ => by
  unfold iSgn at q
  split at q
  · rename_i x s1 q1
    cases q
    exact ⟨E, N, c, env, st, _, _, Rl, q1, fun v N1 c1 H1 x1 W1 r1 => ⟨x, r1.str, k _ N1 c1 H1 x1 W1 il_str⟩⟩
  · cases q
/-! ### sorted texts -/
abbrev cpL (a : Str) : List Nat := a.cps.toList
def leS (a b : Str) : Prop := cpL a ≤ cpL b
instance {a b : Str} : Decidable (leS a b) := inferInstanceAs (Decidable (cpL a ≤ cpL b))
def insS (x : Str) : List Str → List Str
  | [] => [x]
  | y :: r => if leS x y then x :: y :: r else y :: insS x r
def sortS (zs : List Str) : List Str := zs.foldr insS []
section
variable {mg : Glob} {X : Cx} {e : Expr} {es : List Expr} {p pos : Pos} {f : SA}
end
/-! ### where a recursion ends -/
theorem okF_0 {P : Program} {w : World} {K : PySem.W.Frag} {mg : Str → Option Value} {base : Heap} {k : Nat} {x : Str} {st : Stmt} {ps : List Str} (F : FT K mg x st)
    (hb : ∀ (kV doc pm : Value) (an : Option Addr) (cdv ct : Value) (us : List Value), us.length = ps.length → bindArgs (PySem.W.fnOf x x (defArgs st) (defBody st) (defScope st) .none kV doc pm an cdv ct) ⟨us, []⟩ = pure (ps.zip us)) : OkF P w K mg base k x ps (fun _ _ => none) := by
  obtain ⟨f, fd, hm, F⟩ := F
  refine ⟨f, fd, hm, F.kp, ⟨fun vs H Q E h => h.1, fun A outer s H args us vs Q E _ _ _ _ h => ?_⟩, F.binds hb, fun _ _ _ e => by cases e⟩
  obtain ⟨_, N, c, ds, st, d, st', _, _, q, _⟩ := h
  cases q
theorem OkF.mono {P : Program} {w : World} {K : PySem.W.Frag} {mg : Str → Option Value} {base : Heap} {j k : Nat} {x : Str} {ps : List Str} {g : FM} (h : OkF P w K mg base j x ps g) (hl : j ≤ k) : OkF P w K mg base k x ps g := by
  obtain ⟨f, fd, hm, hk, F, hb, ar⟩ := h
  exact ⟨f, fd, hm, hk, F.mono hl, hb, ar⟩
/-! ### insert -/
def sIns (i : Nat) (fj fe : SE) : SS := fun env st => match fj env st with
  | some (.int j, s1) => (match fe env s1 with
    | some (d, s2) => (match env[i]? with
      | some (.own xs) => if xs.length < 1000000 ∧ 0 ≤ j ∧ j < 2 ^ 62 then some (.nx (env.set i (.own (xs.take j.toNat ++ [d] ++ xs.drop j.toNat))), s2) else none
      | _ => none)
    | none => none)
  | _ => none
section
variable {mg : Glob} {X : Cx} {e ej : Expr} {pos apos cpos : Pos} {fe fj : SE}
theorem s_ins {i : Nat} {x : Str} {p1 : Pos} (hj : PE X ej (tP mg fj)) (he : PE X e (tE mg fe)) (hN : X.N[i]? = some x := by rfl) (hv : Vis X.env.scope x := by first | exact Or.inl rfl | exact Or.inr (Or.inl rfl) | exact Or.inr (Or.inr rfl)) (hd : (x == ("__debug__" : Str)) = false := by decide)
    (hcd : (x == ("__classdict__" : Str)) = false := by decide) (hs : swapsWith (.Call (.Attribute (.Name x p1) "insert" apos) [ej, e] [] cpos) none pos.line X.env = pure false := by rfl)
    (hbase : attributeBase (.Name x p1) "insert" X.env (eval (.Name x p1) X.env) = eval (.Name x p1) X.env := by rfl)
    (hfew : ((backTo cpos (starEach [ej, e] X.env)).all (fun x => !x.1) && (backToKw cpos (keywordEach [] X.env)).all (fun x => x.1.isSome)
      && decide ([ej, e].length + ([] : List Keyword).length + (if ([] : List Keyword).isEmpty then 0 else 1) < 30)) = true := by rfl)
    (hline : (apos.endLine == cpos.line) = true := by rfl) (hst : starEach [ej, e] X.env = (false, eval ej X.env) :: starEach [e] X.env := by rfl) (hst2 : starEach [e] X.env = (false, eval e X.env) :: starEach [] X.env := by rfl) (hplain : (backTo cpos (starEach [e] X.env)).any (·.1) = false := by rfl) :
    PS X (.Expr (.Call (.Attribute (.Name x p1) "insert" apos) [ej, e] [] cpos) pos) (tS mg (sIns i fj fe)) :=
  ps_weak (ps_expr (pe_bm PySem.F.plainAttrs_list PySem.F.slot_list_insert PySem.F.type_list_insert mt_insert (pe_var hN hv hd hcd) (pa_cons hj (pa_cons he pa_nil hst2) hst) hbase hfew hline hst hplain) hs) fun De σ H h => by
    obtain ⟨E, N, c, env, st, o, st', R, q, p⟩ := tS_def.mp h
    unfold sIns at q
    split at q
    · rename_i j s1 q1
      split at q
      · rename_i d s2 q2
        split at q
        · rename_i xs hx
          split at q
          · rename_i hl
            cases q
            obtain ⟨a, vs, ea, ha, rr⟩ := R.sl i _ hx
            have ea := join_some ea
            refine ⟨.ref a, ea, .inl ⟨rfl, vs, SqL.of ha⟩, E, N, c, env, st, .int j, s1, R, q1, fun u N1 c1 H1 x1 W1 r1 => ⟨E, N1, c1, env, s1, d, _, R.ex x1 W1, q2, fun v N2 c2 H2 x2 W2 r2 => ?_⟩⟩
            have R1 := R.ex x1 W1
            have R2 := R1.ex x2 W2
            obtain ⟨b, us, eb, hb, r3⟩ := R2.sl i _ hx
            rw [ea] at eb
            cases eb
            have wr := R2.write (vs := us) hx ea (((r3.take j.toNat).append (.cons r2 .nil)).append (r3.drop j.toNat))
            have ej := r1.int
            subst ej
            exact ⟨a, us, j, v, rfl, rfl, hb, by rw [r3.length]; exact sz7 hl.1, hl.2.1, Int.lt_trans hl.2.2 (by decide), p N2 c2 σ _ (((x1.trans x2 R.wd).sx R.wd W2).trans wr.2) wr.1⟩
          · cases q
        · cases q
      · cases q
    · cases q
end
end LW

/-! LwYb: dicts whose keys are numbers and texts: as data. -/
namespace LW
open PySem L2 PyProof.Rows
abbrev DK := List Key × List D
instance memKdec (x : Key) (ks : List Key) : Decidable (x ∈ ks) := decidable_of_iff ((ks.any fun y => decide (y = x)) = true) (by
  rw [List.any_eq_true]
  exact ⟨fun ⟨y, h, e⟩ => of_decide_eq_true e ▸ h, fun h => ⟨x, h, decide_eq_true rfl⟩⟩)
/-! ### plain words -/
def keyD : D → Option Key
  | .int i => some (.inl i)
  | .str z => some (.inr z)
  | _ => none
def keyV : Key → D
  | .inl i => .int i
  | .inr z => .str z
theorem keyD_V {k : Key} : keyD (keyV k) = some k := by cases k <;> rfl
theorem keyD_eq {d : D} {k : Key} (h : keyD d = some k) : d = keyV k := by
  cases d <;> first | (cases h; rfl) | cases h
def getD : List Key → List D → Key → Option D
  | k :: ks, d :: ds, x => if k = x then some d else getD ks ds x
  | _, _, _ => none
def putV : List Key → List D → Key → D → List D
  | k :: ks, d :: ds, x, y => (if k = x then y else d) :: putV ks ds x y
  | _, _, _, _ => []
def putKD (p : DK) (x : Key) (y : D) : DK := if x ∈ p.1 then (p.1, putV p.1 p.2 x y) else (p.1 ++ [x], p.2 ++ [y])
def mergeD (acc : DK) (l : List (Key × D)) : DK := l.foldl (fun a kv => putKD a kv.1 kv.2) acc
/-- pairs (key, value) of a list of tuples -/
def pairsOf : List D → Option (List (Key × D))
  | [] => some []
  | .tup [a, b] :: r => (match keyD a, pairsOf r with
    | some k, some l => some ((k, b) :: l)
    | _, _ => none)
  | _ => none
section
variable {mg : Glob} {N : Prot} {c : List Addr} {H : Hp} {st : Sto} {u : V} {x : D}
theorem RepT.key {k : Key} (h : RepT mg N c H u x) (e : keyD x = some k) : u = kV k := by
  have := keyD_eq e
  subst this
  cases k with
  | inl i => exact h.int
  | inr z => exact h.str
theorem Rep.key {k : Key} : Rep mg N c H (kV k) (keyV k) := by
  cases k with
  | inl i => exact .int i
  | inr z => exact .str z
theorem RepT.dic {ks : List Key} {ds : List D} (h : RepT mg N c H u (.dic ks ds)) : ∃ a kvs, u = .ref a ∧ Rd H a (.dK kvs) ∧ kvs.map (·.1) = ks ∧ RepL mg N c H (kvs.map (·.2)) ds := by
  rcases h with h | ⟨_, _, _, _, e, _⟩
  · cases h with
    | dic h n hn r => exact ⟨_, _, rfl, .inl h, hn, r⟩
    | dfz h n hn r => exact ⟨_, _, rfl, .inr ⟨_, h⟩, hn, r⟩
  · cases e
theorem get_rel : ∀ {kvs : List (Key × V)} {ds : List D} {k : Key} {d : D}, RepL mg N c H (kvs.map (·.2)) ds → getD (kvs.map (·.1)) ds k = some d → ∃ v, valV kvs k = some v ∧ Rep mg N c H v d
  | [], _, _, _, _, e => by cases e
  | kv :: r, _, k, d, .cons h t, e => by
    rw [List.map_cons] at e
    unfold getD at e
    split at e
    · rename_i hk
      cases e
      exact ⟨kv.2, valV_pos hk, h⟩
    · rename_i hk
      obtain ⟨v, e1, r1⟩ := get_rel t e
      exact ⟨v, by rw [valV_neg hk]; exact e1, r1⟩
theorem any_mem {kvs : List (Key × V)} {k : Key} : (kvs.any fun kv => decide (kv.1 = k)) = decide (k ∈ kvs.map (·.1)) := by
  rw [List.any_eq, decide_eq_decide]
  constructor
  · rintro ⟨kv, h1, h2⟩
    exact List.mem_map.mpr ⟨kv, h1, of_decide_eq_true h2⟩
  · intro h
    obtain ⟨kv, h1, h2⟩ := List.mem_map.mp h
    exact ⟨kv, h1, decide_eq_true h2⟩
theorem has_rel {kvs : List (Key × V)} {k : Key} : (valV kvs k).isSome = decide (k ∈ kvs.map (·.1)) := by rw [← valV_any, any_mem]
theorem putV_rel {v : V} {d : D} {k : Key} (h : Rep mg N c H v d) : ∀ {kvs : List (Key × V)} {ds : List D}, RepL mg N c H (kvs.map (·.2)) ds → RepL mg N c H ((kvs.map (fun kv => if kv.1 = k then (kv.1, v) else kv)).map (·.2)) (putV (kvs.map (·.1)) ds k d)
  | [], _, .nil => .nil
  | kv :: r, _, .cons q t => by
    rw [List.map_cons, List.map_cons, List.map_cons]
    unfold putV
    by_cases e : kv.1 = k
    · rw [if_pos e, if_pos e]
      exact .cons h (putV_rel h t)
    · rw [if_neg e, if_neg e]
      exact .cons q (putV_rel h t)
theorem put_rel {v : V} {d : D} {k : Key} {kvs : List (Key × V)} {ds : List D} (h : Rep mg N c H v d) (r : RepL mg N c H (kvs.map (·.2)) ds) : (putK kvs k v).map (·.1) = (putKD (kvs.map (·.1), ds) k d).1 ∧ RepL mg N c H ((putK kvs k v).map (·.2)) (putKD (kvs.map (·.1), ds) k d).2 := by
  unfold putK putKD
  rw [any_mem]
  by_cases e : k ∈ kvs.map (·.1)
  · rw [if_pos (decide_eq_true e), if_pos e]
    refine ⟨?_, putV_rel h r⟩
    rw [List.map_map]
    refine List.map_congr_left fun kv _ => ?_
    show (if kv.1 = k then (kv.1, v) else kv).1 = kv.1
    split <;> rfl
  · rw [if_neg (by rw [decide_eq_false e]; exact Bool.false_ne_true), if_neg e]
    exact ⟨by rw [List.map_append]; rfl, by rw [List.map_append]; exact r.append (.cons h .nil)⟩
theorem merge_rel : ∀ {l : List (Key × D)} {more : List (Key × V)} {kvs : List (Key × V)} {ds : List D}, RepL mg N c H (kvs.map (·.2)) ds → more.map (·.1) = l.map (·.1) → RepL mg N c H (more.map (·.2)) (l.map (·.2)) → (mergeK kvs more).map (·.1) = (mergeD (kvs.map (·.1), ds) l).1 ∧ RepL mg N c H ((mergeK kvs more).map (·.2)) (mergeD (kvs.map (·.1), ds) l).2
  | [], [], kvs, ds, r, _, _ => ⟨rfl, r⟩
  | [], _ :: _, _, _, _, e, _ => by cases e
  | _ :: _, [], _, _, _, e, _ => by cases e
  | kd :: l, kv :: more, kvs, ds, r, e, .cons h t => by
    have e1 : kv.1 = kd.1 := by injection e
    have e2 : more.map (·.1) = l.map (·.1) := by injection e
    obtain ⟨p1, p2⟩ := put_rel (k := kd.1) h r
    show (mergeK (putK kvs kv.1 kv.2) more).map (·.1) = (mergeD (putKD (kvs.map (·.1), ds) kd.1 kd.2) l).1 ∧ RepL mg N c H ((mergeK (putK kvs kv.1 kv.2) more).map (·.2)) (mergeD (putKD (kvs.map (·.1), ds) kd.1 kd.2) l).2
    rw [e1]
    have ih := merge_rel (l := l) (more := more) p2 e2 t
    rw [p1] at ih
    exact ih
theorem pairs_rel : ∀ {xs : List D} {vs : List V} {l : List (Key × D)}, RepL mg N c H vs xs → pairsOf xs = some l → ∃ (ps : List Addr) (kvs : List (Key × V)), vs = ps.map V.ref ∧ Paired (fun p kv => SqT mg.K H p [kV kv.1, kv.2]) ps kvs ∧ kvs.map (·.1) = l.map (·.1) ∧ RepL mg N c H (kvs.map (·.2)) (l.map (·.2))
  | [], _, _, .nil, e => by cases e; exact ⟨[], [], rfl, .nil, rfl, .nil⟩
  | x :: xs, _, l, .cons h t, e => by
    unfold pairsOf at e
    split at e
    · rename_i heq
      cases heq
    · rename_i a b r heq
      cases heq
      split at e
      · rename_i k l' hk hl
        cases e
        obtain ⟨ps, kvs, rfl, hp, e1, r1⟩ := pairs_rel t hl
        obtain ⟨p, us, rfl, hh, rr⟩ := RepT.tup (.inl h)
        cases rr with
        | cons ha tt => cases tt with
          | cons hb tt => cases tt with
            | nil =>
              have ek := RepT.key (.inl ha) hk
              subst ek
              exact ⟨p :: ps, (k, _) :: kvs, rfl, .cons (SqT.of hh) hp, by rw [List.map_cons, List.map_cons, e1], .cons hb r1⟩
      · cases e
    · cases e
end
/-! ### a new dict -/
def RD (mg : Glob) : Told DK := fun _ _ H N' c' H' v d => ∃ p kvs, v = .ref p ∧ H p = none ∧ N' p ∧ p ∉ c' ∧ H' p = some (.dK kvs) ∧ kvs.map (·.1) = d.1 ∧ RepL mg N' c' H' (kvs.map (·.2)) d.2
abbrev tD (mg : Glob) (f : Fx DK) : TE := tX mg (RD mg) f
def eD (f : Fx DK) : SE := fun env st => (f env st).map fun p => (.dic p.1.1 p.1.2, p.2)
section
variable {mg : Glob} {N N' : Prot} {c c' : List Addr} {H H' : Hp} {st st' : Sto} {v : V} {X : Cx} {e : Expr}
theorem back_D : Back mg (RD mg) := fun W x W1 ⟨p, vs, e, hp, r⟩ => ⟨p, vs, e, x.free W W1 hp, r⟩
theorem RD.give {d : DK} (W : Wd mg N c H st) (x : Ex N c H N' c' H') (W' : Wd mg N' c' H' st') (h : RD mg N c H N' c' H' v d) : ∃ N'', Ex N c H N'' c' H' ∧ Wd mg N'' c' H' st' ∧ Rep mg N'' c' H' v (.dic d.1 d.2) := by
  obtain ⟨p, kvs, rfl, hp, np, nc, hv, hm, r⟩ := h
  have less : ∀ a, (N' a ∧ a ≠ p) → N' a := fun a z => z.1
  refine ⟨fun a => N' a ∧ a ≠ p, ⟨x.keep, fun a z => x.new a z.1, fun a z => ⟨x.mono a z, fun e => W.trk a z (by rw [e]; exact hp)⟩, x.pre, x.newc⟩, W'.less less fun a z => ⟨W'.cn a z, fun e => nc (e ▸ z)⟩, ?_⟩
  exact .dic hv (fun z => z.2 rfl) hm (r.tr (Tr.less less))
theorem RD.laid {kvs : List (Key × V)} {d : DK} {p : Addr} (W : Wd mg N c H st) (hp : H p = none) (hm : kvs.map (·.1) = d.1) (r : RepL mg N c H (kvs.map (·.2)) d.2) : RD mg N c H (fun a => N a ∨ a = p) c (upd H p (.dK kvs)) (.ref p) d :=
  ⟨p, kvs, rfl, hp, .inr rfl, W.cnone hp, upd_same, hm, r.tr ((Ex.laidN W hp).tr W)⟩
end
/-! ### dict(list of pairs), dict(d), {} -/
/-- a dict that may be read -/
def dicG (st : Sto) : D → Option DK
  | .dic ks ds => some (ks, ds)
  | .dcl k => dcG st k
  | _ => none
theorem RepT.dicG {mg : Glob} {N : Prot} {c : List Addr} {H : Hp} {st : Sto} {u : V} {x : D} {p : DK} (W : Wd mg N c H st) (h : RepT mg N c H u x) (e : dicG st x = some p) : ∃ a kvs, u = .ref a ∧ Rd H a (.dK kvs) ∧ kvs.map (·.1) = p.1 ∧ RepL mg N c H (kvs.map (·.2)) p.2 := by
  cases x with
  | dic ks ds => cases e; exact h.dic
  | dcl k =>
    rcases h with h | ⟨_, _, _, _, z, _⟩
    · cases h with
      | dcl hc =>
        obtain ⟨kvs, ha, hn, r⟩ := W.dcG hc e
        exact ⟨_, kvs, rfl, ha, hn, r⟩
    · cases z
  | _ => cases e
def gDictP : List D → Sto → Option DK := fun ds st => match ds with
  | [x] => (match lstR st x with
    | some xs => (match pairsOf xs with
      | some l => some (mergeD ([], []) l)
      | none => none)
    | none => none)
  | _ => none
def rDictP (K : PySem.W.Frag) : List V → Hp → VK → Prop := fun xs H Q => ∃ (a : Addr) (ps : List Addr) (kvs : List (Key × V)), xs = [.ref a] ∧ SqL K H a (ps.map V.ref) ∧ Paired (fun p kv => SqT K H p [kV kv.1, kv.2]) ps kvs ∧ ∀ p, H p = none → Q (.ref p) (upd H p (.dK (mergeK [] kvs)))
theorem ok_dictP {mg : Glob} : BiOk mg (RD mg) (rDictP mg.K) gDictP := by
  intro N c H st us ds d Q W p q k
  unfold gDictP at q
  split at q
  · rename_i x
    split at q
    · rename_i xs hx
      split at q
      · rename_i l hl
        cases q
        obtain ⟨u, rfl, h⟩ := tl1 p
        obtain ⟨a, vs, rfl, ha, r⟩ := RepT.read W h hx
        obtain ⟨ps, kvs, rfl, hp, e1, r1⟩ := pairs_rel r hl
        refine ⟨a, ps, kvs, rfl, ha, hp, fun p hp => ?_⟩
        obtain ⟨m1, m2⟩ := merge_rel (l := l) (more := kvs) (kvs := []) (ds := []) .nil e1 r1
        exact k _ _ _ _ (Ex.laidN W hp) (W.laidN hp) (RD.laid W hp m1 m2)
      · cases q
    · cases q
  · cases q
def lD0 : Fx DK := fun _ st => some (([], []), st)
section
variable {mg : Glob} {X : Cx} {e : Expr} {es : List Expr} {p pos : Pos} {f : SA}
theorem d_dictP (hc : X.calm = true) (hm : X.mg "dict" = none) (ha : PA X (e :: es) (tAP mg f)) (hg : Gl X "dict" := by rfl) (he : starEach (e :: es) X.env = (false, eval e X.env) :: starEach es X.env := by rfl) (hpl : (backTo pos (starEach es X.env)).any (·.1) = false := by rfl) (hK : X.K = mg.K := by rfl) : PE X (.Call (.Name "dict" p) (e :: es) [] pos) (tD mg (eBi gDictP f)) :=
  d_bt (hK ▸ call_dictP hc) ok_dictP back_D hg hm (by decide +kernel) ha (by decide) (by decide) he hpl
end
/-! ### d[k], k in d -/
def oDx : D → D → Sto → Option D := fun x y st => match dicG st x with
  | some p => (match keyD y with
    | some k => getD p.1 p.2 k
    | none => none)
  | none => none
def oInK (neg : Bool) : D → D → Sto → Option D := fun y x st => match dicG st x with
  | some p => (match keyD y with
    | some k => some (.bl (if neg then !decide (k ∈ p.1) else decide (k ∈ p.1)))
    | none => none)
  | none => none
theorem ok_dx {mg : Glob} : OpOk mg (RE mg) (fun x y H Q => ∃ a v, x = .ref a ∧ DGet H a y (some v) ∧ Q v H) oDx := by
  intro N c H st u v x y d Q W p1 p2 e k
  unfold oDx at e
  split at e
  · rename_i p hp
    split at e
    · rename_i kk hk
      obtain ⟨a, kvs, rfl, ha, hn, r⟩ := RepT.dicG W p1 hp
      rw [← hn] at e
      obtain ⟨w, hw, rw_⟩ := get_rel r e
      exact ⟨a, w, rfl, .inl ⟨kvs, kk, ha, p2.key hk, hw.symm⟩, k w N c H Ex.refl W rw_⟩
    · cases e
  · cases e
theorem ok_ninK {mg : Glob} : OpOk mg (RE mg) (fun y x H Q => ∃ a o, x = .ref a ∧ DGet H a y o ∧ Q (.bl (!o.isSome)) H) (oInK true) := by
  intro N c H st u v y x d Q W p1 p2 e k
  unfold oInK at e
  split at e
  · rename_i p hp
    split at e
    · rename_i kk hk
      cases e
      obtain ⟨a, kvs, rfl, ha, hn, r⟩ := RepT.dicG W p2 hp
      refine ⟨a, _, rfl, .inl ⟨kvs, kk, ha, p1.key hk, rfl⟩, ?_⟩
      rw [has_rel, hn]
      exact k _ N c H Ex.refl W (.bl _)
    · cases e
  · cases e
section
variable {mg : Glob} {X : Cx} {a b : Expr} {pos : Pos} {fa fb : SE}
theorem d_dx (hu : X.A.units + 1 < cLine) (ha : PE X a (tP mg fa)) (hb : PE X b (tP mg fb)) (hs : NoSl b := by exact fun _ _ => rfl) : PE X (.Subscript a b pos) (tE mg (eOp oDx fa fb)) := pe_weak (pe_dget hu ha hb hs) fun _ _ _ h => r_op ok_dx back_E h
theorem d_ninK (hu : X.A.units + 1 < cLine) (ha : PE X a (tP mg fa)) (hb : PE X b (tP mg fb)) (h1 : behindInMarks .NotIn b = false := by rfl) : PE X (.Compare a [.NotIn] [b] pos) (tE mg (eOp (oInK true) fa fb)) := pe_weak (pe_cmp (pc_dnotin hu ha hb) h1) fun _ _ _ h => r_op ok_ninK back_E h
end
/-! ### sorted(d) -/
def strKeys : List Key → Option (List Str)
  | [] => some []
  | .inr z :: r => (match strKeys r with
    | some l => some (z :: l)
    | none => none)
  | _ => none
section
variable {mg : Glob} {X : Cx} {e : Expr} {es : List Expr} {p pos : Pos} {f : SA}
end
end LW

/-! LwYc: comprehensions over the keys of a dict; a dict of the frame's own. -/
namespace LW
open PySem L2 PyProof.Rows
/-- a heap in which dicts are locked or unlocked -/
structure Lk (N : Prot) (H H' : Hp) : Prop where
  keep : ∀ a o, H a = some o → (∀ kvs, ¬ (o = .dK kvs ∨ ∃ b, o = .frz b (.dK kvs))) → H' a = some o
  dic : ∀ a kvs, Rd H a (.dK kvs) → Rd H' a (.dK kvs)
  ex : ∀ a, N a → H' a = H a
section
variable {mg : Glob} {N : Prot} {c : List Addr} {H H' : Hp} {st : Sto}
theorem Lk.some (l : Lk N H H') {a : Addr} (h : H a ≠ none) : H' a ≠ none := by
  cases e : H a with
  | none => exact absurd e h
  | some o =>
    by_cases q : ∃ kvs, o = .dK kvs ∨ ∃ b, o = .frz b (.dK kvs)
    · obtain ⟨kvs, q⟩ := q
      have : Rd H a (.dK kvs) := q.elim (fun z => .inl (by rw [e, z])) fun ⟨b, z⟩ => .inr ⟨b, by rw [e, z]⟩
      rcases l.dic a kvs this with z | ⟨b, z⟩ <;> rw [z] <;> exact fun y => nomatch y
    · rw [l.keep a o e fun kvs z => q ⟨kvs, z⟩]
      exact fun y => nomatch y
mutual
theorem Rep.lk {v : V} {d : D} (l : Lk N H H') : Rep mg N c H v d → Rep mg N c H' v d
  | .non => .non
  | .bl b => .bl b
  | .int i => .int i
  | .str x => .str x
  | .ty n => .ty n
  | .cls h => .cls h
  | .tup h r => .tup (l.keep _ _ h fun kvs z => z.elim (fun y => nomatch y) fun ⟨_, y⟩ => nomatch y) (RepL.lk l r)
  | .lst h n r => .lst (l.keep _ _ h fun kvs z => z.elim (fun y => nomatch y) fun ⟨_, y⟩ => nomatch y) n (RepL.lk l r)
  | .fro h n r => .fro (l.keep _ _ h fun kvs z => z.elim (fun y => nomatch y) fun ⟨_, y⟩ => nomatch y) n (RepL.lk l r)
  | .kro h => .kro h
  | .cell h => .cell h
  | .dcl h => .dcl h
  | .ocl h => .ocl h
  | .obj hc h n hn r => .obj hc (l.keep _ _ h fun kvs z => z.elim (fun y => nomatch y) fun ⟨_, y⟩ => nomatch y) n hn (RepL.lk l r)
  | .dic h n hn r => (l.dic _ _ (.inl h)).elim (fun z => .dic z n hn (RepL.lk l r)) fun ⟨_, z⟩ => .dfz z n hn (RepL.lk l r)
  | .dfz h n hn r => (l.dic _ _ (.inr ⟨_, h⟩)).elim (fun z => .dic z n hn (RepL.lk l r)) fun ⟨_, z⟩ => .dfz z n hn (RepL.lk l r)
  | .dit h n hn r => .dit (l.keep _ _ h fun kvs z => z.elim (fun y => nomatch y) fun ⟨_, y⟩ => nomatch y) n hn (RepL.lk l r)
  | .ditz h n hn r => .ditz (l.keep _ _ h fun kvs z => z.elim (fun y => nomatch y) fun ⟨_, y⟩ => nomatch y) n hn (RepL.lk l r)
theorem RepL.lk {vs : List V} {ds : List D} (l : Lk N H H') : RepL mg N c H vs ds → RepL mg N c H' vs ds
  | .nil => .nil
  | .cons h r => .cons (Rep.lk l h) (RepL.lk l r)
end
theorem CRep.lk {o : HO} {xs : List D} (l : Lk N H H') : CRep mg N c H o xs → CRep mg N c H' o xs
  | .l r => .l (r.lk l)
  | .k r => .k (r.lk l)
  | .kz r => .kz (r.lk l)
  | .t r => .t (r.lk l)
  | .i hc r => .i hc (r.lk l)
theorem Wd.lk (l : Lk N H H') (W : Wd mg N c H st) : Wd mg N c H' st :=
  ⟨W.len, fun k a xs h1 h2 => let ⟨vs, e, r⟩ := W.sto k a xs h1 h2; ⟨vs, by rw [l.ex a (W.cn a (List.mem_of_getElem? h1))]; exact e, r.lk l⟩, W.cn, W.nd, fun a h => l.some (W.trk a h)⟩
end
/-! ### walks over the keys -/
section
variable {mg : Glob} {X : Cx} {tg : Expr} {pos : Pos}
variable {eltE : Expr} {ifs : List Expr} {scope : Scope} {own : List (Str × Nat)} {asg : D → Env → Option Env} {cond : SB} {elt : SE} {g : TG} {is : List Nat}
end
end LW

/-! LwYd: != of lists of equal things, dicts among them. -/
namespace PySem.SeqAt
open AutoSeq1 (wpAny_loadPart')
open MeetsSeq MeetsSeq2 MeetsSeq3 SeqRoads2
section
variable {P : Program} {w : World}
end
end PySem.SeqAt
namespace LW
open PySem L2 PyProof.Rows
section
variable {X : Cx} {pins : List (Addr × Obj)} {σ : L2.St} {H : Hp} {s : Shared}
end
/-! ### equal data -/
section
variable {mg : Glob} {N : Prot} {c : List Addr} {H : Hp} {st : Sto}
end
section
variable {mg : Glob} {X : Cx} {a b : Expr} {pos : Pos} {fa fb : SE}
end
/-! ### a dict of the frame's own -/
def sOwnD (i : Nat) (f : Fx DK) : SS := fun env st => match f env st with
  | some (d, s1) => some (.nx (env.set i (.ownD d.1 d.2)), s1)
  | none => none
section
variable {mg : Glob} {X : Cx} {e ej : Expr} {pos tpos : Pos} {fe fj : SE} {fl : Fx DK}
end
end LW

/-! LwYe: {k: v, ..}. -/
namespace LW
open PySem L2 PyProof.Rows
section
variable {mg : Glob}
variable {X : Cx} {pos : Pos} {keys : List (Option Expr)} {values : List Expr} {l : List (SE × SE)}
end
end LW

/-! LwYf: set(list of texts), sorted. -/
namespace LW
open PySem L2 PySem.Spec PyProof.Rows
/-! ### what a set of texts is -/
def txOf (e : Int × Value) : Str := match e.2 with
  | .str k _ => k
  | _ => ⟨#[]⟩
def TxE (w : World) (e : Int × Value) : Prop := ∃ k tk, e.2 = Value.str k tk ∧ e.1 = hashStr w k
abbrev txL (es : Array (Int × Value)) : List Str := es.toList.map txOf
/-- the table and the rows of a set that holds just the texts l -/
structure TxT (w : World) (es : Array (Int × Value)) (t : SetTable) (l : List Str) : Prop where
  row : ∀ e ∈ es.toList, TxE w e
  nd : (txL es).Nodup
  mem : ∀ k, k ∈ l ↔ k ∈ txL es
  few : es.size < scanBound
  fit : t.fits es.size = true
  ris : Ris t.place.toList
  led : w.params.followText "set-order" = true ∨ t.led = true
def SetS (w : World) (h : Heap) (a : Addr) (l : List Str) (n : Nat) : Prop := ∃ o es ep t, h.get? a = some o ∧ o.ExactSet ∧ o.data = .set es ep t ∧ TxT w es t l ∧ es.size = n
section
variable {P : Program} {w : World} {A : Around} {E : Value → Shared → Prop} {s : Shared} {a : Addr} {l : List Str} {n : Nat}
theorem SetS.at {h h' : Heap} (R : SetS w h a l n) (k : ∀ o, h.get? a = some o → h'.get? a = some o) : SetS w h' a l n := by
  obtain ⟨o, es, ep, t, ho, r⟩ := R
  exact ⟨o, es, ep, t, k o ho, r⟩
end
end LW

/-! LwYg: set(list of texts), sorted(..) of it. -/
namespace LW
open PySem L2 PySem.Spec PyProof.Rows
section
variable {P : Program} {w : World} {A : Around} {E : Value → Shared → Prop} {s : Shared}
theorem SetS.same {h : Heap} {a : Addr} {l l' : List Str} {n : Nat} (R : SetS w h a l n) (e : ∀ k, k ∈ l ↔ k ∈ l') : SetS w h a l' n := by
  obtain ⟨o, es, ep, t, ho, hx, hd, T, hn⟩ := R
  exact ⟨o, es, ep, t, ho, hx, hd, ⟨T.row, T.nd, fun k => (e k).symm.trans (T.mem k), T.few, T.fit, T.ris, T.led⟩, hn⟩
end
end LW

/-! LwYh: sorted(set(list of texts)) as data; how mirrors with dicts, texts and sets run. -/
namespace LW
open PySem L2 PySem.Spec PyProof.Rows
def insN (x : Str) : List Str → List Str
  | [] => [x]
  | y :: r => if x = y then y :: r else if leS x y then x :: y :: r else y :: insN x r
def sortN (zs : List Str) : List Str := zs.foldr insN []
section
variable {X : Cx}
end
def eSN (fa : SE) : Fx (List D) := fun env st => match fa env st with
  | some (x, s1) => (match lstS s1 x with
    | some zs => if zs.length < 64 then some ((sortN zs).map D.str, s1) else none
    | none => none)
  | none => none
/-! ### how mirrors run -/
section
variable {env : Env} {st : Sto} {Q : D → Sto → Prop} {QL : List D → Sto → Prop} {QK : DK → Sto → Prop} {QS : Out → Sto → Prop} {QI : Src → Sto → Prop} {i : Nat} {fe fj fk : SE} {f : Fx DK} {fs : SA}
theorem z_ins (h : Ok (fj env st) fun j s1 => AsI j fun j => Ok (fe env s1) fun d s2 => ∃ xs, env[i]? = some (.own xs) ∧ (xs.length < 1000000 ∧ 0 ≤ j ∧ j < 2 ^ 62) ∧ QS (.nx (env.set i (.own (xs.take j.toNat ++ [d] ++ xs.drop j.toNat)))) s2) : Ok (sIns i fj fe env st) QS := by
  obtain ⟨o, s1, e1, h⟩ := h
  obtain ⟨j, rfl, d, s2, e2, xs, e3, l, q⟩ := h.of
  exact ⟨_, s2, by unfold sIns; rw [e1]; dsimp only; rw [e2]; dsimp only; rw [e3]; dsimp only; rw [if_pos l], q⟩
theorem z_ownD (h : Ok (f env st) fun d s => QS (.nx (env.set i (.ownD d.1 d.2))) s) : Ok (sOwnD i f env st) QS := by
  obtain ⟨d, s1, e1, h⟩ := h
  exact ⟨_, s1, by unfold sOwnD; rw [e1], h⟩
theorem z_D (h : Ok (f env st) fun d s => Q (.dic d.1 d.2) s) : Ok (eD f env st) Q := by
  obtain ⟨d, s1, e1, h⟩ := h
  exact ⟨_, s1, by unfold eD; rw [e1]; rfl, h⟩
theorem z_d0 (h : QK ([], []) st) : Ok (lD0 env st) QK := ⟨_, st, rfl, h⟩
theorem z_sgn (h : Ok (fe env st) fun d s => ∃ x, d = .str x ∧ QI (signsD x, noChk) s) : Ok (iSgn fe env st) QI := by
  obtain ⟨d, s1, e1, x, rfl, q⟩ := h
  exact ⟨_, s1, by unfold iSgn; rw [e1], q⟩
theorem z_sn (h : Ok (fe env st) fun x s => ∃ zs, lstS s x = some zs ∧ zs.length < 64 ∧ QL ((sortN zs).map D.str) s) : Ok (eSN fe env st) QL := by
  obtain ⟨x, s1, e1, zs, e2, l, q⟩ := h
  exact ⟨_, s1, by unfold eSN; rw [e1]; dsimp only; rw [e2]; dsimp only; rw [if_pos l], q⟩
end
end LW

/-! LwZa: == and != of dicts whose values are instances with an own __eq__ (the heap grows meanwhile). -/
namespace PySem.W
open PySem PySem.Calls PyProof.Rows PyProof.V PySem.Spec
section
variable {prog : Program} {w : World} {K : Type} [DecidableEq K] {knd : KeyKind prog w K} {A : Around} {E : Value → Shared → Prop} {s : Shared}
end
end PySem.W

/-! LwZb: == and != of dicts of instances with an own __eq__, as data. -/
namespace LW
open PySem L2 PyProof.Rows
/-! ### mirrors that leave the store -/
/-! ### two equal items -/
section
variable {mg : Glob} {X : Cx} {pins : List (Addr × Obj)} {σ : L2.St} {H : Hp} {s : Shared} {N : Prot} {c : List Addr} {st : Sto} {k : Nat} {C : Addr} {cs : List Str} {g : FM} {cn : Str} {E : Value → Shared → Prop}
end
section
variable {X : Cx} {k : Nat} {C : Addr} {cs : List Str} {g : FM} {cn : Str} {a b : Expr} {pos : Pos} {fa fb : SE}
end
end LW

/-! LwZc: for over the keys of a dict; a, b = {}, {}; list * int. -/
namespace LW
open PySem L2 PyProof.Rows
section
variable {mg : Glob} {N N' : Prot} {c c' : List Addr} {H H' : Hp} {st st' : Sto} {E : En} {env env' : Env} {σ σ' : L2.St} {a : Addr} {od : Obj} {kvs : List (Key × V)}
/-- the entry as seen while the dict at a is locked -/
def En.lk (E : En) (a : Addr) (o : HO) : En := ⟨upd E.H0 a o, E.N0, E.c0, E.self⟩
end
section
variable {mg : Glob} {X : Cx} {tg : Expr} {body : List Stmt} {pos : Pos} {fb : SS} {asg : D → Env → Option Env} {g : TG} {is : List Nat}
end
/-! ### a, b = two new things -/
section
variable {mg : Glob} {X : Cx} {e a b : Expr} {pos : Pos} {fe : SE} {fl : Fx (List D)} {fd : Fx DK} {fa fb : Fx Sl}
end
/-! ### list * int -/
section
variable {mg : Glob} {N : Prot} {c : List Addr} {H : Hp} {X : Cx} {a b : Expr} {pos : Pos} {fa fb : SE}
theorem RepL.rep {vs : List V} {ds : List D} (r : RepL mg N c H vs ds) : ∀ n : Nat, RepL mg N c H (List.replicate n vs).flatten (List.replicate n ds).flatten
  | 0 => .nil
  | n + 1 => by
    rw [List.replicate_succ, List.replicate_succ, List.flatten_cons, List.flatten_cons]
    exact r.append (RepL.rep r n)
end
end LW

/-! LwZd: {k: v for .. in .. if ..}. -/
namespace LW
open PySem L2 PyProof.Rows
section
variable {mg : Glob}
end
def dcM (chk : Sto → Bool) (asg : D → Env → Option Env) (cond : SB) (fk fv : SE) (env0 : Env) : List D → DK → Sto → Option (DK × Sto)
  | [], acc, st => if chk st = true then some (acc, st) else none
  | d :: ds, acc, st => if chk st = true then (match asg d env0 with
    | none => none
    | some e1 => match cond e1 st with
      | none => none
      | some (false, s1) => dcM chk asg cond fk fv env0 ds acc s1
      | some (true, s1) => match fk e1 s1 with
        | none => none
        | some (y, s2) => match fv e1 s2 with
          | none => none
          | some (z, s3) => match keyD y with
            | none => none
            | some k => dcM chk asg cond fk fv env0 ds (putKD acc k z) s3) else none
def dComp (fi : Fx Src) (asg : D → Env → Option Env) (cond : SB) (fk fv : SE) (vs : List Nat) : Fx DK := fun env st => match fi env st with
  | none => none
  | some (xs, s1) => if xs.1.length ≤ 1000000 then dcM xs.2 asg cond fk fv (wipeE env vs) xs.1 ([], []) s1 else none
section
variable {mg : Glob} {fi : Fx Src} {asg : D → Env → Option Env} {cond : SB} {fk fv : SE} {g : TG} {is vs : List Nat}
variable {X : Cx} {kx vx tg iter : Expr} {ifs : List Expr} {scope : Scope} {own : List (Str × Nat)} {pos : Pos}
end
/-! ### how mirrors run -/
section
variable {chk : Sto → Bool} {asg : D → Env → Option Env} {cond : SB} {fk fv : SE} {env0 e1 : Env} {st : Sto} {fi : Fx Src} {vs : List Nat} {QK : DK → Sto → Prop}
theorem z_dComp (h : Ok (fi env0 st) fun xs s1 => xs.1.length ≤ 1000000 ∧ Ok (dcM xs.2 asg cond fk fv (wipeE env0 vs) xs.1 ([], []) s1) QK) : Ok (dComp fi asg cond fk fv vs env0 st) QK := by
  obtain ⟨x, s1, e1, hl, h⟩ := h
  obtain ⟨a, s, e, q⟩ := h
  exact ⟨a, s, by unfold dComp; rw [e1]; dsimp only; rw [if_pos hl, e], q⟩
end
end LW

/-! LwZe: [e for .. in .. if .. for .. in .. if ..]. -/
namespace LW
open PySem L2 PyProof.Rows
def comp2M (chk : Sto → Bool) (asg : D → Env → Option Env) (cond : SB) (fi2 : Fx Src) (asg2 : D → Env → Option Env) (cond2 : SB) (elt : SE) (vs2 : List Nat) (env0 : Env) : List D → Sto → Option (List D × Sto)
  | [], st => if chk st = true then some ([], st) else none
  | d :: ds, st => if chk st = true then (match asg d env0 with
    | none => none
    | some e1 => match cond e1 st with
      | none => none
      | some (false, s1) => comp2M chk asg cond fi2 asg2 cond2 elt vs2 env0 ds s1
      | some (true, s1) => match fi2 e1 s1 with
        | none => none
        | some (src, s2) => match compM src.2 asg2 cond2 elt (wipeE e1 vs2) src.1 s2 with
          | none => none
          | some (ys, s3) => match comp2M chk asg cond fi2 asg2 cond2 elt vs2 env0 ds s3 with
            | none => none
            | some (zs, s4) => some (ys ++ zs, s4)) else none
def lComp2 (fi : Fx Src) (asg : D → Env → Option Env) (cond : SB) (fi2 : Fx Src) (asg2 : D → Env → Option Env) (cond2 : SB) (elt : SE) (vs vs2 : List Nat) : Fx (List D) := fun env st => match fi env st with
  | none => none
  | some (xs, s1) => match comp2M xs.2 asg cond fi2 asg2 cond2 elt vs2 (wipeE env vs) xs.1 s1 with
    | none => none
    | some (ys, s2) => if ys.length ≤ 1000000 then some (ys, s2) else none
section
variable {mg : Glob} {fi fi2 : Fx Src} {asg asg2 : D → Env → Option Env} {cond cond2 : SB} {elt : SE} {g g2 : TG} {is is2 vs vs2 : List Nat}
variable {X : Cx} {eltE tg iter tg1 iter1 : Expr} {ifs ifs1 : List Expr} {scope : Scope} {own : List (Str × Nat)} {pos : Pos}
end
end LW

/-! LwEa: exception classes of the form: def __init__(self, value=None): super().__init__(); self.value = value (turned from a worked proof with an own error). -/
namespace PySem
namespace LeafX
open PySem.W PySem.Calls PyProof.Rows PySem.HandSPX
/-! ### the text of __init__ -/
/-- what the written part says of the class at C and of its __init__ at fI -/
structure LeafTxt (P : Program) (K : Frag) (C fI : Addr) (qual : Str) : Prop where
  cls : ∃ nm q N bs bm sn sub ab col dd k0 k1 k2 k3 k5, K.lookup C = some (excClassObj nm q C N bs bm true sn sub ab col dd k0 k1 k2 k3 k5 "ValueError.__new__") ∧ refsVE bm = true ∧ alongIn K "__init__" bm = some (some (.builtin "ValueError.__init__"))
  sa : findIn K (.ref C) "__setattr__" = some (some (.builtin "object.__setattr__"))
  noN : findIn K (.ref C) "value" = some none
  iC : findIn K (.ref C) "__init__" = some (some (.ref fI))
  tC : typeIn K (.ref fI) = some (.type "function")
  exC : subIn K (.ref C) (.type "BaseException") = some true
  mro : mroIn K C (.ref C) = some true
  vaC : subIn K (.ref C) (.type "ValueError") = some true
  tyC : typeIn K (.ref C) = some (.type "type")
  opq : nsIn K cStatics "thirdparty.any" = some none
  fn : ∃ (oc T : Value) (od : Option Addr) (kV doc pm ct : Value) (an : Option Addr) (osl : Array (Option Value)) (p : Ps) (cc cda : Addr) (oT : Addr) (ot : Obj) (it : Value) (nt : Nat) (vs : Array Value) (file : Str) (tf : Tok)
      (ccl cl : Value) (cdd cld : Option Addr) (ccs csl : Array (Option Value)),
    K.lookup fI = some ⟨oc, od, .func (fnX "__init__" qual (iA p) (iB p) iS [("__class__", cc)] (.ref oT) kV doc pm an (.ref cda) ct), osl⟩ ∧ codeIn K (.ref cda) qual = true ∧
    K.lookup oT = some ot ∧ ot.data = .seq #[it] nt ∧ it = .none ∧
    K.lookup cda = some ⟨ccl, cdd, .fields vs, ccs⟩ ∧ vs[2]? = some (.str file tf) ∧ ((P.main.file : Str) == file) = true ∧
    K.lookup cc = some ⟨cl, cld, .cell (some (.ref C)), csl⟩ ∧ (p.a3.endLine == p.a4.line) = true
  top : (P.main.scope.names.lookup ("super" : Str)).isSome = false
/-- what __init__ leaves of a fresh exception at x -/
structure InitEnd (h h' : Heap) (x C dx t1 : Addr) (v : Value) : Prop where
  keep : ∀ b o, b ≠ x → h.get? b = some o → h'.get? b = some o
  obj : h'.get? x = some { cls := .ref C, dict := some dx, data := .fields #[.ref t1, .none, .none, .none, .bool false, .none] }
  dbig : h.objs.size ≤ dx
  dne : dx ≠ x
  ns : h'.Ns1 dx (fun y => if y = "value" then some v else none)
section
variable {prog : Program} {w : World} {A : Around} {E : Value → Shared → Prop} {R : Result → Shared → Prop} {s : Shared} {K : Frag} {mg mb : Str → Option Value} {C fI : Addr} {qual : Str}
/-- a made one -/
structure OwnMade (h h' : Heap) (e C d : Addr) (v : Value) : Prop where
  keep : ∀ b o, h.get? b = some o → h'.get? b = some o
  new : h.objs.size ≤ e
  obj : ∃ oe vs, h'.get? e = some oe ∧ oe.cls = .ref C ∧ oe.dict = some d ∧ oe.data = .fields vs ∧ vs[1]? = some .none
  dbig : h.objs.size ≤ d
  dne : d ≠ e
  ns : h'.Ns1 d (fun y => if y = "value" then some v else none)
end
end LeafX
end PySem

/-! LwEb: several except clauses, some with a name; an own error is raised. (The first proof is turned from the rules for clauses without a name and for one clause with a name.) -/
namespace L2
open PySem PySem.Spec PyProof.Rows
/-- what the clauses wish: slot i is the name's -/
def wManyN (K : PySem.W.Frag) (Wout : WX) (D : Ends) : List (Value × Option Nat × (Addr → Value → Option Addr → TS)) → WX
  | [] => Wout
  | (c, none, ts) :: r => fun cls d σ H => ∃ b, PySem.W.exmOne K cls c = some b ∧ (b = true → ∀ a, H a = none → ts a cls d D σ H) ∧ (b = false → wManyN K Wout D r cls d σ H)
  | (c, some i, ts) :: r => fun cls d σ H => ∃ b, PySem.W.exmOne K cls c = some b ∧ (b = true → ∀ a, H a = none → ts a cls d { nx := fun σ' H' => D.nx (σ'.set i none) H', rt := D.rt, bk := fun σ' H' => D.bk (σ'.set i none) H', ct := fun σ' H' => D.ct (σ'.set i none) H' } (σ.set i (some (.ref a))) H) ∧ (b = false → wManyN K Wout D r cls d σ H)
inductive HdsN (X : Cx) : List ExceptHandler → List (Value × Option Nat × (Addr → Value → Option Addr → TS)) → Prop
  | nil : HdsN X [] []
  | cons {x : Str} {c : Value} {ts : Addr → Value → Option Addr → TS} {b₀ : Stmt} {suite : List Stmt} {np pos' : Pos} {hds : List ExceptHandler} {l : List (Value × Option Nat × (Addr → Value → Option Addr → TS))} (hc : Names X x c)
      (hsu : ∀ (a : Addr) (oe : Obj) (cls : Value) (d : Option Addr) (pn : List (Addr × Obj)), Zc cls d oe → (∃ vs, oe.data = .fields vs) → PSs (X.suite a ((a, oe) :: pn)) (b₀ :: suite) (ts a cls d)) (r : HdsN X hds l) :
      HdsN X (.ExceptHandler (some (.Name x np)) none (b₀ :: suite) pos' :: hds) ((c, none, ts) :: l)
  | consAs {x n : Str} {i : Nat} {c : Value} {ts : Addr → Value → Option Addr → TS} {b₀ : Stmt} {suite : List Stmt} {np pos' : Pos} {hds : List ExceptHandler} {l : List (Value × Option Nat × (Addr → Value → Option Addr → TS))} (hi : X.N[i]? = some n) (hln : X.env.kindOf n = some .local) (hc : Names X x c)
      (hsu : ∀ (a : Addr) (oe : Obj) (cls : Value) (d : Option Addr) (pn : List (Addr × Obj)), Zc cls d oe → (∃ vs, oe.data = .fields vs) → PSs (X.suite a ((a, oe) :: pn)) (b₀ :: suite) (ts a cls d)) (r : HdsN X hds l) :
      HdsN X (.ExceptHandler (some (.Name x np)) (some n) (b₀ :: suite) pos' :: hds) ((c, some i, ts) :: l)
section
variable {X : Cx} {body : List Stmt} {h₀ : ExceptHandler} {hds : List ExceptHandler} {l : List (Value × Option Nat × (Addr → Value → Option Addr → TS))} {pos : Pos} {tb : WX → TS} {Wout : WX}
theorem ps_try_manyN (hN : X.N.Nodup) (hs : X.stack = X.env :: X.outer) (hf : X.env.frame = some X.env.locals) (tk : Takes X Wout)
    (hb : ∀ (W : WX) (pn : List (Addr × Obj)) (xe : Value → Shared → Prop), Takes (X.tr pn xe) W → PassesOwn (model X.prog X.w) X.A X.env xe → PSs (X.tr pn xe) body (tb W))
    (hh : HdsN X (h₀ :: hds) l) : PS X (.Try body (h₀ :: hds) [] [] pos) (fun D σ H => tb (wManyN X.K Wout D l) D σ H) := by
  refine ⟨fun pins s σ H D I h => ?_⟩
  have ok := I.ok
  have hfr : X.A.frames = some (X.env :: X.outer) := by rw [ok.frames, hs]
  refine wpAny_Try_except ?_
  refine wpAny_mono ((hb (wManyN X.K Wout D l) (X.pn ++ pins) (fun e s₁ => wpAny (model X.prog X.w) X.A (noteFrame e X.env) (fun _ s₂ => wpAny (model X.prog X.w) X.A (setFlight e none) (fun _ s₃ =>
    wpAny (model X.prog X.w) X.A (handleBy e X.env (h₀ :: hds)) (SP X pins D) X.xe s₃) X.xe s₂) X.xe s₁) (fun u s' xx => ?_) PassesOwn.looking).run [] s σ H D (I.toTry _) h) (fun f s1 hsp => ?_) (fun e s1 he => he)
  · -- the catch
    obtain ⟨a, B, sI, pins', σ', H', cls, d, rfl, J', nb, up, sky, na, os, ag, w⟩ := xx
    have J : Inv X pins σ' H' sI := J'.ofTry ok
    have sky' : Sky B (X.env :: X.outer) a (Zc cls d) X.env.locals s'.heap := by rw [← hs]; exact sky
    show wpAny (model X.prog X.w) X.A (noteFrame (.ref a) X.env) _ _ _
    refine Sky.land Zc.steady hfr hf sky' fun h3 fl3 up3 => ?_
    have J3 : Inv X pins σ' H' { s' with heap := h3 } := J.landed nb fl3.1 (up.trans up3) os ag
    obtain ⟨oe3, vs3, he3, hz3, hd3⟩ := fl3.there
    have notFr : ∀ {h : Heap} {o : Obj} {vs : Array Value}, h.FunFrames B (X.env :: X.outer) → h.get? a = some o → o.data = .fields vs → a ∉ frs (X.env :: X.outer) := fun {h o vs} ff e dd hm => by
      obtain ⟨_, o', e', hnf⟩ := ff.mem hm
      rw [e] at e'; cases e'
      exact hnf _ dd
    have nfr := notFr fl3.2.2.1 he3 hd3
    have nL : a ≠ X.env.locals := fun z => nfr (List.mem_filterMap.mpr ⟨X.env, List.mem_cons_self, by rw [hf, z]⟩)
    have nF : a ∉ X.fs := fun hm => by
      obtain ⟨e, he, q⟩ := List.mem_filterMap.mp hm
      exact nfr (List.mem_filterMap.mpr ⟨e, List.mem_cons_of_mem _ he, q⟩)
    have S3 := J3.suite he3 hd3 na nL nF
    have go : ∀ {hds' : List ExceptHandler} {l' : List (Value × Option Nat × (Addr → Value → Option Addr → TS))}, HdsN X hds' l' → wManyN X.K Wout D l' cls d σ' H' →
        wpAny (model X.prog X.w) X.A (handleBy (.ref a) X.env hds') (SP X pins D) X.xe { s' with heap := h3 } := by
      intro hds' l' hk
      induction hk with
      | nil =>
        intro w
        refine wpAny_handleBy_nil ?_
        obtain ⟨k1, k2, k3, oe, vs, T, oT, ts', he, hz, hd, h1, hr⟩ := id fl3
        unfold PySem.passOn
        refine wpAny_bind (wpAny_field he hd h1 ?_)
        rw [if_neg (show ¬ ((Value.ref T == Value.none) = true) from by simp)]
        have fin : wpAny (model X.prog X.w) X.A (setFlight (.ref a) X.env.frame) (fun _ s4 => wpAny (model X.prog X.w) X.A (throw (.ref a) : Sem Flow) (SP X pins D) X.xe s4) X.xe { s' with heap := h3 } := by
          rw [hf]
          refine HandSPX.setFlight_upZ fl3 fun h4 hh4 up4 => wpAny_throw (tk _ _ ?_)
          exact ⟨a, B, sI, pins, σ', H', cls, d, rfl, J, nb, (up.trans up3).trans up4, .inr (.inr (by rw [hs]; exact hh4)), na, os, ag, w⟩
        first
          | exact wpAny_bind (wpAny_pure (wpAny_bind fin))
          | exact wpAny_bind fin
      | @cons x c ts b₀ suite np pos' hds2 l2 hc hsu r ih =>
        intro w
        obtain ⟨b, hb1, hyes, hno⟩ := w
        refine wpAny_handleBy_cons (codeAny_handlers_test ?_) (by intro q; cases q)
        have LT : PySem.W.Looks (model X.prog X.w) h3 (typeOf (.ref a)) cls := fun A Q E s k q => wpAny_typeOf_ref (k _ _ he3) (by rw [hz3.1]; exact q)
        have LM := PySem.W.exm_one (M := model X.prog X.w) (J3.kIn) LT hb1
        have test : ∀ {Q : Value → Shared → Prop} {E : Value → Shared → Prop}, Q c { s' with heap := h3 } → wpAny (model X.prog X.w) (X.A.mark (some (.ref a))) (eval (.Name x np) X.env) Q E { s' with heap := h3 } := fun {Q E} q => by
          obtain ⟨hg, hdbg, hm | ⟨hm, hv, hnn⟩⟩ := hc
          · exact ld_glob (X := X.suite a ((a, oe3) :: (X.pn ++ pins))) S3 hg hm q hdbg
          · exact ld_blt (X := X.suite a ((a, oe3) :: (X.pn ++ pins))) S3 hg hm hv q hnn hdbg
        refine test (LM.here ?_)
        cases b with
        | true =>
          refine codeAny_handlers_suite ?_
          refine HandSPX.lands_againZ fl3 fun h4 fl4 up4 => ?_
          have J4 : Inv X pins σ' H' { s' with heap := h4 } := J.landed nb fl4.1 ((up.trans up3).trans up4) os ag
          obtain ⟨oe4, vs4, he4, hz4, hd4⟩ := fl4.there
          have S4 := J4.suite he4 hd4 na nL nF
          refine wpAny_mono ((hsu a oe4 cls d (X.pn ++ pins) hz4 ⟨_, hd4⟩).run [] _ _ H' _ S4 (hyes rfl a na)) (fun f s6 hsp => ?_) (fun _ _ z => False.elim z)
          cases f with
          | next =>
            obtain ⟨σ6, H6, S6, q6⟩ := hsp
            exact ⟨_, _, S6.unsuite ok, q6⟩
          | brk =>
            obtain ⟨σ6, H6, S6, q6⟩ := hsp
            exact ⟨_, _, S6.unsuite ok, q6⟩
          | cont =>
            obtain ⟨σ6, H6, S6, q6⟩ := hsp
            exact ⟨_, _, S6.unsuite ok, q6⟩
          | ret u =>
            obtain ⟨v6, σ6, H6, S6, r6, q6⟩ := hsp
            exact ⟨_, _, _, S6.unsuite ok, r6, q6⟩
        | false =>
          show wpAny _ X.A (handleBy (.ref a) X.env hds2) _ _ _
          exact ih (hno rfl)
      | @consAs x n i c ts b₀ suite np pos' hds2 l2 hi hln hc hsu r ih =>
        intro w
        have hloc : Loc X.env.scope n := .inl hln
        obtain ⟨b, hb1, hyes, hno⟩ := w
        refine wpAny_handleBy_cons (codeAny_handlers_test ?_) (by intro q; cases q)
        have LT : PySem.W.Looks (model X.prog X.w) h3 (typeOf (.ref a)) cls := fun A Q E s k q => wpAny_typeOf_ref (k _ _ he3) (by rw [hz3.1]; exact q)
        have LM := PySem.W.exm_one (M := model X.prog X.w) (J3.kIn) LT hb1
        have test : ∀ {Q : Value → Shared → Prop} {E : Value → Shared → Prop}, Q c { s' with heap := h3 } → wpAny (model X.prog X.w) (X.A.mark (some (.ref a))) (eval (.Name x np) X.env) Q E { s' with heap := h3 } := fun {Q E} q => by
          obtain ⟨hg, hdbg, hm | ⟨hm, hv, hnn⟩⟩ := hc
          · exact ld_glob (X := X.suite a ((a, oe3) :: (X.pn ++ pins))) S3 hg hm q hdbg
          · exact ld_blt (X := X.suite a ((a, oe3) :: (X.pn ++ pins))) S3 hg hm hv q hnn hdbg
        refine test (LM.here ?_)
        cases b with
        | true =>
          refine codeAny_handlers_suite_as ?_
          refine HandSPX.lands_againZ fl3 fun h4 fl4 up4 => ?_
          have J4 : Inv X pins σ' H' { s' with heap := h4 } := J.landed nb fl4.1 ((up.trans up3).trans up4) os ag
          obtain ⟨oe4, vs4, he4, hz4, hd4⟩ := fl4.there
          have S4 := J4.suite he4 hd4 na nL nF
          refine store_ok (X := X.suite a ((a, oe4) :: (X.pn ++ pins))) (v := .ref a) S4 hN hi hloc rfl (fun s5 S5 => ?_) (.inr hln)
          refine wpAny_mono ((hsu a oe4 cls d (X.pn ++ pins) hz4 ⟨_, hd4⟩).run [] s5 _ H' _ S5 (hyes rfl a na)) (fun f s6 hsp => ?_) (fun _ _ z => False.elim z)
          have end_ : ∀ {σ6 : St} {H6 : Hp} {Q : Shared → Prop}, Inv (X.suite a ((a, oe4) :: (X.pn ++ pins))) [] σ6 H6 s6 → (∀ s7, Inv X pins (σ6.set i none) H6 s7 → Q s7) →
              wpAny (model X.prog X.w) X.A (do bindName X.env n .none; unbindBehindTheSuite X.env n pos') (fun _ s7 => Q s7) X.xe s6 := fun {σ6 H6 Q} S6 hq => gone_ok (S6.unsuite ok) hN hi hln hq
          cases f with
          | next =>
            obtain ⟨σ6, H6, S6, q6⟩ := hsp
            exact end_ S6 fun s7 J7 => ⟨_, _, J7, q6⟩
          | brk =>
            obtain ⟨σ6, H6, S6, q6⟩ := hsp
            exact end_ S6 fun s7 J7 => ⟨_, _, J7, q6⟩
          | cont =>
            obtain ⟨σ6, H6, S6, q6⟩ := hsp
            exact end_ S6 fun s7 J7 => ⟨_, _, J7, q6⟩
          | ret u =>
            obtain ⟨v6, σ6, H6, S6, r6, q6⟩ := hsp
            exact end_ S6 fun s7 J7 => ⟨_, _, _, J7, r6, q6⟩
        | false =>
          show wpAny _ X.A (handleBy (.ref a) X.env hds2) _ _ _
          exact ih (hno rfl)
    exact go hh w
  · cases f with
    | next =>
      obtain ⟨σ', H', J', q⟩ := hsp
      exact wpAny_execs_nil ⟨σ', H', J'.ofTry ok, q⟩
    | brk =>
      obtain ⟨σ', H', J', q⟩ := hsp
      exact ⟨σ', H', J'.ofTry ok, q⟩
    | cont =>
      obtain ⟨σ', H', J', q⟩ := hsp
      exact ⟨σ', H', J'.ofTry ok, q⟩
    | ret u =>
      obtain ⟨v, σ', H', J', r, q⟩ := hsp
      exact ⟨v, σ', H', J'.ofTry ok, r, q⟩
end
section
variable {X : Cx} {C fI : Addr} {qual x : Str}
end
end L2

/-! LwEc: statements and expressions that may raise, by plain functions; defs that may raise. -/
namespace LW
open PySem L2 PyProof.Rows

/-- an exception of the class cn whose value is d -/
def XcL (mg : Glob) (N : Prot) (c : List Addr) (H : Hp) (cls : Value) (dd : Option Addr) (cn : Str) (d : D) : Prop :=
  ∃ C da v, cls = .ref C ∧ dd = some da ∧ mg.mg cn = some (.ref C) ∧ H da = some (.xd [(("value" : Str), v)]) ∧ ¬ N da ∧ Rep mg N c H v d
/-- what stands for the value of an exception of a class without an own __init__ -/
abbrev bareD : D := .ty "bare"
def isBare : D → Bool
  | .ty _ => true
  | _ => false
/-- an exception of the class cn: with a value, or of a class without an own __init__ -/
def XcP (mg : Glob) (N : Prot) (c : List Addr) (H : Hp) (cls : Value) (dd : Option Addr) (cn : Str) (d : D) : Prop :=
  XcL mg N c H cls dd cn d ∨ ∃ C, cls = .ref C ∧ dd = none ∧ mg.mg cn = some (.ref C) ∧ d = bareD
theorem XcP.at {mg : Glob} {N : Prot} {c : List Addr} {H : Hp} {cls : Value} {dd : Option Addr} {cn : Str} {d : D} (z : XcP mg N c H cls dd cn d) : ∃ C, cls = .ref C ∧ mg.mg cn = some (.ref C) := by
  rcases z with ⟨C, da, v, e1, e2, e3, e4, e5, e6⟩ | ⟨C, e1, e2, e3, e4⟩
  · exact ⟨C, e1, e3⟩
  · exact ⟨C, e1, e3⟩
theorem XcP.leaf {mg : Glob} {N : Prot} {c : List Addr} {H : Hp} {cls : Value} {dd : Option Addr} {cn : Str} {d : D} (z : XcP mg N c H cls dd cn d) (h : isBare d = false) : XcL mg N c H cls dd cn d := by
  rcases z with z | ⟨C, e1, e2, e3, rfl⟩
  · exact z
  · cases h
inductive OutX where
  | o (o : Out) | ex (cn : Str) (d : D) (env : Env)
inductive RX where
  | ok (d : D) | ex (cn : Str) (d : D)
abbrev SX := Env → Sto → Option (OutX × Sto)
abbrev EX := Env → Sto → Option (RX × Sto)
abbrev FX := List D → Sto → Option (RX × Sto)
def PostX (mg : Glob) (W : WX) (E : En) (N : Prot) (c : List Addr) (H : Hp) (De : Ends) (o : OutX) (st' : Sto) : Prop := match o with
  | .o o => PostS mg E N c H De o st'
  | .ex cn d env' => ∀ N' c' σ' H' cls dd, Sx N c H N' c' H' → Rel mg E N' c' env' st' σ' H' → XcP mg N' c' H' cls dd cn d → W cls dd σ' H'
def tSX (mg : Glob) (W : WX) (f : SX) : TS := fun De σ H => ∃ (E : En) (N : Prot) (c : List Addr) (env : Env) (st : Sto) (o : OutX) (st' : Sto), Rel mg E N c env st σ H ∧ f env st = some (o, st') ∧ PostX mg W E N c H De o st'
def PostE (mg : Glob) (W : WX) (σ : L2.St) (N : Prot) (c : List Addr) (H : Hp) (Q : VK) (r : RX) (st' : Sto) : Prop := match r with
  | .ok d => ∀ v N' c' H', Ex N c H N' c' H' → Wd mg N' c' H' st' → Rep mg N' c' H' v d → Q v H'
  | .ex cn d => ∀ N' c' H' cls dd, Ex N c H N' c' H' → Wd mg N' c' H' st' → XcP mg N' c' H' cls dd cn d → W cls dd σ H'
section
variable {mg : Glob} {W : WX} {E : En} {N N' : Prot} {c c' : List Addr} {H H' : Hp} {De : Ends} {o : OutX} {st st' : Sto} {env env' : Env} {σ : L2.St}
theorem PostX.from (x : Sx N c H N' c' H') (p : PostX mg W E N c H De o st') : PostX mg W E N' c' H' De o st' := by
  cases o with
  | o o => exact PostS.from x p
  | ex cn d e => exact fun N2 c2 σ2 H2 cls dd x2 R2 z => p N2 c2 σ2 H2 cls dd (x.trans x2) R2 z
end
def xL (f : SS) : SX := fun env st => (f env st).map fun p => (.o p.1, p.2)
def xNil : SX := fun env st => some (.o (.nx env), st)
def xSeq (f g : SX) : SX := fun env st => match f env st with
  | some (.o (.nx e), s1) => g e s1
  | r => r
def xIf (t : SB) (f g : SX) : SX := fun env st => match t env st with
  | some (true, s1) => f env s1
  | some (false, s1) => g env s1
  | none => none
def xRaise (cn : Str) (f : SE) : SX := fun env st => match f env st with
  | some (d, s1) => some (.ex cn d env, s1)
  | none => none
def xDrop (f : EX) : SX := fun env st => match f env st with
  | some (.ok _, s1) => some (.o (.nx env), s1)
  | some (.ex cn d, s1) => some (.ex cn d env, s1)
  | none => none
def xSet (i : Nat) (f : EX) : SX := fun env st => match f env st with
  | some (.ok d, s1) => some (.o (.nx (env.set i (.val d))), s1)
  | some (.ex cn d, s1) => some (.ex cn d env, s1)
  | none => none
def xRet (f : EX) : SX := fun env st => match f env st with
  | some (.ok d, s1) => some (.o (.rt d), s1)
  | some (.ex cn d, s1) => some (.ex cn d env, s1)
  | none => none
section
variable {mg : Glob} {X : Cx} {W : WX} {s : Stmt} {rest : List Stmt} {e : Expr} {pos : Pos} {f g : SX} {fe : EX} {fs : SS} {t : SB}
theorem x_lift (h : PS X s (tS mg fs)) : PS X s (tSX mg W (xL fs)) := ps_weak h fun De σ H ⟨E, N, c, env, st, o, st', R, q, p⟩ => by
  unfold xL at q
  cases qf : fs env st with
  | none => rw [qf] at q; cases q
  | some r =>
    obtain ⟨o1, s1⟩ := r
    rw [qf] at q
    cases q
    exact tS_def.mpr ⟨E, N, c, env, st, o1, _, R, qf, p⟩
theorem x_one (h1 : PS X s (tSX mg W f)) : PSs X [s] (tSX mg W f) := pss_one h1
end
end LW

/-! LwEd: raise; calls of defs that may raise; such defs. -/
namespace LW
open PySem L2 PyProof.Rows
section
variable {mg : Glob} {X : Cx} {W : WX} {s : Stmt} {rest : List Stmt} {e : Expr} {es : List Expr} {pos : Pos} {f g : SX} {fe : EX} {fv : SE} {fs : SS} {t : SB}
end
/-! ### defs that may raise -/
def fnX (n m : Nat) (body : SX) : FX := fun ds st => if ds.length = n then (match body (env0 m ds) st with
  | some (.o (.rt d), s1) => some (.ok d, s1)
  | some (.o (.nx _), s1) => some (.ok .non, s1)
  | some (.ex cn d _, s1) => some (.ex cn d, s1)
  | _ => none) else none
def eCallX (g : FX) (dd : List D) (f : SA) : EX := fun env st => match f env st with
  | none => none
  | some (ds, s1) => g (ds ++ dd) s1
section
variable {P : Program} {w : World} {K : PySem.W.Frag} {mg : Str → Option Value} {base : Heap}
theorem XcP.fin {m : Glob} {E : En} {N : Prot} {c : List Addr} {env : Env} {st : Sto} {σ : L2.St} {H : Hp} {cls : Value} {dd : Option Addr} {cn : Str} {d : D} (R : Rel m E N c env st σ H) (z : XcP m N c H cls dd cn d) : XcP m (fun a => E.N0 a ∨ a ∈ c) c H cls dd cn d := by
  have less : ∀ a, (E.N0 a ∨ a ∈ c) → N a := fun a z => z.elim (R.n0 a) (R.wd.cn a)
  rcases z with ⟨C, da, v, e1, e2, e3, e4, e5, e6⟩ | z
  · exact .inl ⟨C, da, v, e1, e2, e3, e4, fun q => e5 (less _ q), e6.tr (Tr.less less)⟩
  · exact .inr z
end
section
variable {mg : Glob} {X : Cx} {W : WX} {k : Nat} {f C : Addr} {fd : FuncData} {ps : List Str} {g : FX} {n : Nat} {dvs : List V} {ds : List Value} {dd : List D} {x m : Str} {p pos apos : Pos} {e o : Expr} {es : List Expr} {fs : SA}
end
end LW

/-! LwEe: try: body / except C1 as e: .. / except C2: .. -/
namespace LW
open PySem L2 PyProof.Rows
/-- a clause: its class, the slot of its name, its suite by the error's value -/
abbrev Cl := Str × Option Nat × (D → SS)
def unO (i : Nat) : Out → Out
  | .nx e => .nx (e.set i .un)
  | .bk e => .bk (e.set i .un)
  | .ct e => .ct (e.set i .un)
  | .rt d => .rt d
def hRun (sub : Str → Str → Option Bool) (cn : Str) (d : D) : List Cl → SS
  | [] => fun _ _ => none
  | (cn', none, fh) :: r => fun env st => match sub cn cn' with
    | some true => fh .non env st
    | some false => hRun sub cn d r env st
    | none => none
  | (cn', some i, fh) :: r => fun env st => match sub cn cn' with
    | some true => if cn = cn' ∧ i < env.length ∧ isBare d = false then (match fh d (env.set i .un) st with
      | some (o, s1) => some (unO i o, s1)
      | none => none) else none
    | some false => hRun sub cn d r env st
    | none => none
def sTry (sub : Str → Str → Option Bool) (fb : SX) (l : List Cl) : SS := fun env st => match fb env st with
  | some (.o o, s1) => some (o, s1)
  | some (.ex cn d e1, s1) => hRun sub cn d l e1 s1
  | none => none
/-- a suite that knows the error's value -/
def tSu (mg : Glob) (i : Nat) (cn : Str) (fh : D → SS) (a : Addr) (cls : Value) (dd : Option Addr) : TS := fun De σ H => ∃ (E : En) (N : Prot) (c : List Addr) (env : Env) (st : Sto) (d : D) (o : Out) (st' : Sto),
  Rel mg E N c env st σ H ∧ σ[i]? = some (some (.ref a)) ∧ XcL mg N c H cls dd cn d ∧ fh d env st = some (o, st') ∧ PostS mg E N c H De o st'
section
variable {mg : Glob} {X : Cx} {i : Nat} {cn : Str} {a : Addr} {oe : Obj} {cls : Value} {dd : Option Addr} {pn : List (Addr × Obj)} {e : Expr} {pos : Pos} {f : D → SE}
end
/-! ### the clauses -/
/-- what the clauses read: the kit's list of a list of mirrors -/
def clT (mg : Glob) : List (Addr × Cl) → List (Value × Option Nat × (Addr → Value → Option Addr → TS))
  | [] => []
  | (C, cn, none, fh) :: r => (.ref C, none, fun _ _ _ => tS mg (fh .non)) :: clT mg r
  | (C, cn, some i, fh) :: r => (.ref C, some i, tSu mg i cn fh) :: clT mg r
section
variable {mg : Glob} {X : Cx} {sub : Str → Str → Option Bool}
theorem hds_run {E : En} {cls : Value} {dd : Option Addr} {cn : Str} {d : D} {De : Ends} (hsub : ∀ cn cn' b C C', sub cn cn' = some b → mg.mg cn = some (.ref C) → mg.mg cn' = some (.ref C') → PySem.W.exmOne X.K (.ref C) (.ref C') = some b) {N : Prot} {c : List Addr} {H : Hp} (z : XcP mg N c H cls dd cn d) :
    ∀ {l : List (Addr × Cl)} {env : Env} {st : Sto} {σ : L2.St} {o : Out} {st' : Sto}, (∀ p ∈ l, mg.mg p.2.1 = some (.ref p.1)) → Rel mg E N c env st σ H → hRun sub cn d (l.map (·.2)) env st = some (o, st') → PostS mg E N c H De o st' → wManyN X.K (fun _ _ _ _ => False) De (clT mg l) cls dd σ H
  | [], env, st, σ, o, st', _, R, q, p => by cases q
  | (C', cn', oi, fh) :: r, env, st, σ, o, st', hm, R, q, p => by
    have hm1 : mg.mg cn' = some (.ref C') := hm _ (List.mem_cons_self ..)
    have hm2 := fun y hy => hm y (List.mem_cons_of_mem _ hy)
    obtain ⟨C, rfl, e3⟩ := z.at
    cases oi with
    | none =>
      unfold clT wManyN
      change (match sub cn cn' with
        | some true => fh .non env st
        | some false => hRun sub cn d (r.map (·.2)) env st
        | none => none) = some (o, st') at q
      split at q
      · rename_i hb
        exact ⟨true, hsub _ _ _ _ _ hb e3 hm1, fun _ a ha => tS_def.mpr ⟨E, N, c, env, st, o, st', R, q, p⟩, fun h => Bool.noConfusion h⟩
      · rename_i hb
        exact ⟨false, hsub _ _ _ _ _ hb e3 hm1, (fun h => Bool.noConfusion h), fun _ => hds_run hsub z hm2 R q p⟩
      · cases q
    | some i =>
      unfold clT wManyN
      change (match sub cn cn' with
        | some true => if cn = cn' ∧ i < env.length ∧ isBare d = false then (match fh d (env.set i .un) st with
          | some (o, s1) => some (unO i o, s1)
          | none => none) else none
        | some false => hRun sub cn d (r.map (·.2)) env st
        | none => none) = some (o, st') at q
      split at q
      · rename_i hb
        refine ⟨true, hsub _ _ _ _ _ hb e3 hm1, fun _ a ha => ?_, fun h => Bool.noConfusion h⟩
        split at q
        · rename_i hc
          obtain ⟨rfl, hi, hbd⟩ := hc
          split at q
          · rename_i o1 s1 q1
            cases q
            refine ⟨E, N, c, env.set i .un, st, d, o1, _, R.set rfl trivial, by rw [List.getElem?_set_self (by rw [R.len]; exact hi)], z.leaf hbd, q1, ?_⟩
            cases o1 with
            | nx e1 => exact fun N2 c2 σ2 H2 x2 R2 => p N2 c2 _ H2 x2 (R2.wipe [i])
            | bk e1 => exact fun N2 c2 σ2 H2 x2 R2 => p N2 c2 _ H2 x2 (R2.wipe [i])
            | ct e1 => exact fun N2 c2 σ2 H2 x2 R2 => p N2 c2 _ H2 x2 (R2.wipe [i])
            | rt d1 => exact p
          · cases q
        · cases q
      · rename_i hb
        exact ⟨false, hsub _ _ _ _ _ hb e3 hm1, (fun h => Bool.noConfusion h), fun _ => hds_run hsub z hm2 R q p⟩
      · cases q
theorem s_try {body : List Stmt} {h₀ : ExceptHandler} {hds : List ExceptHandler} {pos : Pos} {fb : SX} {l : List (Addr × Cl)} (hsub : ∀ cn cn' b C C', sub cn cn' = some b → mg.mg cn = some (.ref C) → mg.mg cn' = some (.ref C') → PySem.W.exmOne X.K (.ref C) (.ref C') = some b)
    (hl : ∀ p ∈ l, mg.mg p.2.1 = some (.ref p.1)) (hN : X.N.Nodup) (hs : X.stack = X.env :: X.outer) (hf : X.env.frame = some X.env.locals)
    (hb : ∀ (W : WX) (pn : List (Addr × Obj)) (xe : Value → Shared → Prop), Takes (X.tr pn xe) W → PassesOwn (model X.prog X.w) X.A X.env xe → PSs (X.tr pn xe) body (tSX mg W fb))
    (hh : HdsN X (h₀ :: hds) (clT mg l)) : PS X (.Try body (h₀ :: hds) [] [] pos) (tS mg (sTry sub fb (l.map (·.2)))) :=
  ps_weak (ps_try_manyN (Wout := fun _ _ _ _ => False) (tb := fun W => tSX mg W fb) hN hs hf takes_none5 hb hh) fun De σ H h => by
    obtain ⟨E, N, c, env, st, o, st', R, q, p⟩ := tS_def.mp h
    unfold sTry at q
    split at q
    · rename_i o1 s1 q1
      cases q
      exact ⟨E, N, c, env, st, _, _, R, q1, p⟩
    · rename_i cn d e1 s1 q1
      exact ⟨E, N, c, env, st, _, _, R, q1, fun N2 c2 σ2 H2 cls dd x2 R2 z => hds_run hsub z hl R2 q (p.from x2)⟩
    · cases q
end
end LW

/-! LwEf: short words: defs that may raise, exception classes with their facts. -/
namespace LW
open PySem L2 PyProof.Rows
section
variable {P : Program} {K : PySem.W.Frag} {mg : Str → Option Value} {h : Heap} {cn : Str} {C L fI N N' cc cda oT : Addr} {nm q nm' q' qual file : Str} {bs bm sub bs' sub' : List Value} {sn sn' : List Str} {hd' ab' : Bool} {col' : Option Bool} {dd' : Option Addr} {j0 j1 j2 j3 j5 : Option Value} {nw' : String} {ab : Bool} {col : Option Bool} {dd od an cdd cld odT : Option Addr} {k0 k1 k2 k3 k5 : Option Value}
  {oc kV doc pm ct ccl cl ocT : Value} {osl ccs csl oslT : Array (Option Value)} {vs : Array Value} {tf : Tok} {nt : Nat} {p1 p2 p3 a1 a2 a3 a4 b1 b2 b3 b4 : Pos}
end
section
variable (P : Program) (w : World) (K : PySem.W.Frag) (mg : Str → Option Value) (base : Heap)
end
section
variable {P : Program} {w : World} {K : PySem.W.Frag} {mg : Str → Option Value} {base : Heap} {k : Nat} {x : Str} {st : Stmt} {nm ps : List Str} {body : SX}
end
section
variable {mg : Glob} {X : Cx} {W : WX} {k n : Nat} {ps : List Str} {g : FX} {dvs : List V} {dd : List D} {x : Str} {p pos : Pos} {e : Expr} {es : List Expr} {fs : SA}
end
/-! ### which class lies below which -/
def subT : List (Str × Str × Bool) → Str → Str → Option Bool
  | [], _, _ => none
  | (a, b, r) :: l, cn, cn' => if a = cn ∧ b = cn' then some r else subT l cn cn'
def EM (K : PySem.W.Frag) (mg : Str → Option Value) (tbl : List (Str × Str × Bool)) : Prop := ∀ cn cn' b C C', subT tbl cn cn' = some b → mg cn = some (.ref C) → mg cn' = some (.ref C') → PySem.W.exmOne K (.ref C) (.ref C') = some b
section
variable {K : PySem.W.Frag} {mg : Str → Option Value} {h : Heap} {cn cn' : Str} {b : Bool} {C C' : Addr} {tbl : List (Str × Str × Bool)}
theorem em_nil : EM K mg [] := fun _ _ _ _ _ h => by cases h
end
section
variable {mg : Glob} {X : Cx} {cn n : Str} {i : Nat} {C : Addr} {fh : D → SS} {b₀ : Stmt} {suite : List Stmt} {np pos' : Pos} {hds : List ExceptHandler} {l : List (Addr × Cl)}
theorem hd_nil : HdsN X [] (clT mg []) := .nil
theorem hd_no (g : X.mg cn = some (.ref C)) (hsu : ∀ (a : Addr) (oe : Obj) (pn : List (Addr × Obj)), PSs (X.suite a ((a, oe) :: pn)) (b₀ :: suite) (tS mg (fh .non)))
    (r : HdsN X hds (clT mg l)) (hg : Gl X cn := by rfl) (hdb : (cn == ("__debug__" : Str)) = false := by decide) :
    HdsN X (.ExceptHandler (some (.Name cn np)) none (b₀ :: suite) pos' :: hds) (clT mg ((C, cn, none, fh) :: l)) := .cons ⟨hg, hdb, .inl g⟩ (fun a oe _ _ pn _ _ => hsu a oe pn) r
end
end LW

/-! LwEg: a thing of any kind in a list of tuples of ints; len(set(tuples of ints)). -/
namespace PySem.SeqAt
open PySem
section
end
end PySem.SeqAt
namespace PySem.SeqAt
open PySem
section
variable {A : Around} {s : Shared}
end
end PySem.SeqAt
namespace L2
open PySem PySem.Spec PyProof.Rows
section
variable {X : Cx} {pins : List (Addr × Obj)} {σ : St} {H : Hp} {s : Shared}
theorem plainL_is {h : Heap} {a : Addr} {its : Array Value} (p : PlainL h a its) : h.IsList a its := by
  obtain ⟨o, n, h1, h2, _, h4⟩ := p
  exact ⟨o, h1, h2, n, h4⟩
end
end L2
namespace LW
open PySem L2 PyProof.Rows
section
variable {mg : Glob} {N : Prot} {c : List Addr} {H : Hp} {st : Sto}
end
end LW
namespace L2
open PySem PySem.Spec PyProof.Rows
end L2
namespace LW
open PySem L2 PyProof.Rows
section
variable {mg : Glob} {N : Prot} {c : List Addr} {H : Hp} {st : Sto}
end
section
variable {mg : Glob} {X : Cx} {a b : Expr} {pos p1 p2 p3 : Pos} {fa fb : SE}
end
end LW

/-! LwEh: != of lists of equal things, tuples and dicts among them (turned from LwYd and from the rule for tuples). -/
namespace PySem.SeqAt
open PySem
open MeetsSeq MeetsSeq2 MeetsSeq3 SeqRoads2
section
variable {prog : Program} {w : World}
end
end PySem.SeqAt
namespace LW
open PySem L2 PyProof.Rows
section
variable {X : Cx} {pins : List (Addr × Obj)} {σ : L2.St} {H : Hp} {s : Shared}
end
/-! ### equal data -/
section
variable {mg : Glob} {N : Prot} {c : List Addr} {H : Hp} {st : Sto}
end
section
variable {mg : Glob} {X : Cx} {a b : Expr} {pos : Pos} {fa fb : SE}
end
end LW

/-! LwEi: xs != [] , the things in xs of any kind. -/
namespace L2
open PySem PySem.Spec PyProof.Rows
end L2
namespace LW
open PySem L2 PyProof.Rows
section
variable {mg : Glob} {X : Cx} {a b : Expr} {pos : Pos} {fa fb : SE}
end
end LW
namespace L2
open PySem PySem.Spec PyProof.Rows
end L2
namespace LW
open PySem L2 PyProof.Rows
section
variable {mg : Glob} {X : Cx} {a b : Expr} {pos : Pos} {fa fb : SE}
end
end LW

/-! LwEj: how mirrors that may raise run, told backwards. -/
namespace LW
open PySem L2
section
variable {env : Env} {st : Sto} {f g : SX} {fs : SS} {fe : EX} {fv : SE} {t : SB} {Q : OutX → Sto → Prop} {QE : RX → Sto → Prop} {QS : Out → Sto → Prop} {cn : Str} {i : Nat}
theorem z_xSeq (h : Ok (f env st) fun o s => match o with
    | .o (.nx e) => Ok (g e s) Q
    | o => Q o s) : Ok (xSeq f g env st) Q := by
  obtain ⟨o, s, e, q⟩ := h
  unfold xSeq
  rw [e]
  cases o with
  | o o => cases o with
    | nx e1 => exact q
    | rt d => exact ⟨_, s, rfl, q⟩
    | bk e1 => exact ⟨_, s, rfl, q⟩
    | ct e1 => exact ⟨_, s, rfl, q⟩
  | ex cn d e1 => exact ⟨_, s, rfl, q⟩
theorem z_xIf (h : Ok (t env st) fun b s => if b = true then Ok (f env s) Q else Ok (g env s) Q) : Ok (xIf t f g env st) Q := by
  obtain ⟨b, s, e, q⟩ := h
  unfold xIf
  rw [e]
  cases b with
  | true => exact q
  | false => exact q
theorem z_xRaise (h : Ok (fv env st) fun d s => Q (.ex cn d env) s) : Ok (xRaise cn fv env st) Q := by
  obtain ⟨d, s, e, q⟩ := h
  exact ⟨_, s, by unfold xRaise; rw [e], q⟩
theorem z_xL (h : Ok (fs env st) fun o s => Q (.o o) s) : Ok (xL fs env st) Q := by
  obtain ⟨o, s, e, q⟩ := h
  exact ⟨_, s, by unfold xL; rw [e]; rfl, q⟩
theorem z_xNil (q : Q (.o (.nx env)) st) : Ok (xNil env st) Q := ⟨_, st, rfl, q⟩
theorem z_xDrop (h : Ok (fe env st) fun r s => match r with
    | .ok _ => Q (.o (.nx env)) s
    | .ex cn d => Q (.ex cn d env) s) : Ok (xDrop fe env st) Q := by
  obtain ⟨r, s, e, q⟩ := h
  cases r with
  | ok d => exact ⟨_, s, by unfold xDrop; rw [e], q⟩
  | ex cn d => exact ⟨_, s, by unfold xDrop; rw [e], q⟩
theorem z_xRet (h : Ok (fe env st) fun r s => match r with
    | .ok d => Q (.o (.rt d)) s
    | .ex cn d => Q (.ex cn d env) s) : Ok (xRet fe env st) Q := by
  obtain ⟨r, s, e, q⟩ := h
  cases r with
  | ok d => exact ⟨_, s, by unfold xRet; rw [e], q⟩
  | ex cn d => exact ⟨_, s, by unfold xRet; rw [e], q⟩
theorem z_eCallX {gx : FX} {dd : List D} {fa : SA} (h : Ok (fa env st) fun ds s => Ok (gx (ds ++ dd) s) QE) : Ok (eCallX gx dd fa env st) QE := by
  obtain ⟨ds, s, e, q⟩ := h
  unfold eCallX
  rw [e]
  exact q
theorem z_sTry {sub : Str → Str → Option Bool} {l : List Cl} (h : Ok (f env st) fun o s => match o with
    | .o o => QS o s
    | .ex cn d e1 => Ok (hRun sub cn d l e1 s) QS) : Ok (sTry sub f l env st) QS := by
  obtain ⟨o, s, e, q⟩ := h
  unfold sTry
  rw [e]
  cases o with
  | o o => exact ⟨_, s, rfl, q⟩
  | ex cn d e1 => exact q
end
end LW

/-! LwEk: repr of texts and tuples. -/
namespace LW
open PySem L2 Builtin.Str
def cOk (l : List Nat) : Prop := ∀ c ∈ l, c < 0x110000
theorem strOk_iff {x : Str} : PyData.strOk x = true ↔ cOk x.cps.toList := by
  unfold PyData.strOk cOk
  rw [← Array.all_toList, List.all_eq_true]
  exact ⟨fun h c hc => of_decide_eq_true (h c hc), fun h c hc => decide_eq_true (h c hc)⟩
theorem char_lt (c : Char) : c.toNat < 0x110000 := by
  have h := c.valid
  rcases h with h | h
  · exact Nat.lt_trans h (by decide)
  · exact h.2
theorem cOk_hex (w c : Nat) : cOk (let d := (Nat.toDigits 16 c).map Char.toNat; List.replicate (w - d.length) 48 ++ d) := by
  intro n hn
  rcases List.mem_append.mp hn with hn | hn
  · rw [(List.mem_replicate.mp hn).2]; decide
  · obtain ⟨c, _, rfl⟩ := List.mem_map.mp hn
    exact char_lt c
theorem cOk_cons {c : Nat} {l : List Nat} (h : c < 0x110000) (t : cOk l) : cOk (c :: l) := fun n hn => by
  rcases List.mem_cons.mp hn with rfl | hn
  · exact h
  · exact t n hn
theorem cOk_nil : cOk [] := fun n hn => by cases hn
theorem cOk_app {l m : List Nat} (h : cOk l) (t : cOk m) : cOk (l ++ m) := fun n hn => (List.mem_append.mp hn).elim (h n) (t n)
theorem reprChar_ok {q c : Nat} (h : c < 0x110000) : cOk (Builtin.Str.reprChar q c) := by
  unfold Builtin.Str.reprChar
  dsimp only
  repeat' split
  · exact cOk_cons (by decide) (cOk_cons h cOk_nil)
  · exact cOk_cons (by decide) (cOk_cons (by decide) cOk_nil)
  · exact cOk_cons (by decide) (cOk_cons (by decide) cOk_nil)
  · exact cOk_cons (by decide) (cOk_cons (by decide) cOk_nil)
  · exact cOk_cons h cOk_nil
  · exact cOk_app (cOk_cons (by decide) (cOk_cons (by decide) cOk_nil)) (cOk_hex _ _)
  · exact cOk_app (cOk_cons (by decide) (cOk_cons (by decide) cOk_nil)) (cOk_hex _ _)
  · exact cOk_app (cOk_cons (by decide) (cOk_cons (by decide) cOk_nil)) (cOk_hex _ _)
theorem foldl_repr_ok (q : Nat) : ∀ (l : List Nat) (acc : Array Nat), cOk l → cOk acc.toList → cOk (l.foldl (fun out c => out ++ (Builtin.Str.reprChar q c).toArray) acc).toList
  | [], acc, _, h => h
  | c :: r, acc, h, ha => foldl_repr_ok q r _ (fun d hd => h d (List.mem_cons_of_mem _ hd)) (by
      rw [Array.toList_append]
      exact cOk_app ha (reprChar_ok (h c (List.mem_cons_self ..))))
theorem quote_lt (x : Str) : reprQuote x < 0x110000 := by
  unfold reprQuote
  split <;> decide
theorem strOk_repr {x : Str} (h : PyData.strOk x = true) : PyData.strOk (reprText x) = true := by
  rw [strOk_iff] at h ⊢
  unfold reprText
  dsimp only
  rw [Array.toList_push, ← Array.foldl_toList]
  exact cOk_app (foldl_repr_ok _ _ _ h (cOk_cons (quote_lt x) cOk_nil)) (cOk_cons (quote_lt x) cOk_nil)
theorem sh_str {x : Str} (h : PyData.strOk x = true) : Sh (.str x) (10 * x.length + 2) where
  sh := by unfold PyData.showable; rfl
  ln := by
    unfold PyData.shown
    exact StrLaws.reprText_len x fun c hc => Nat.lt_of_lt_of_le (strOk_iff.mp h c hc) (by decide)
  ok := by
    unfold PyData.shown
    exact strOk_repr h
theorem strOk_join {sep : Str} (hs : PyData.strOk sep = true) : ∀ (ts : List Str), (∀ t ∈ ts, PyData.strOk t = true) → PyData.strOk (Str.join sep ts) = true
  | [], _ => strOk_of ""
  | [t], h => h t (by simp)
  | t :: u :: r, h => by
    show PyData.strOk (t ++ sep ++ Str.join sep (u :: r)) = true
    exact strOk_app (strOk_app (h t (by simp)) hs) (strOk_join hs (u :: r) fun z hz => h z (by simp [List.mem_cons.mp hz]))
theorem sh_tup {n : Nat} {xs : List PyData} (h : ∀ x ∈ xs, Sh x n) : Sh (.tuple xs) ((n + 2) * xs.length + 3) := by
  obtain ⟨h1, h2, h3, h4⟩ := sh_all xs h
  refine ⟨by unfold PyData.showable; exact h1, ?_, ?_⟩
  · unfold PyData.shown
    have := tupleText_len_le (PyData.shownAll xs)
    rw [h3] at this
    rw [Nat.add_mul]
    omega
  · unfold PyData.shown tupleText
    refine strOk_app (strOk_app (strOk_of _) (strOk_join (strOk_of _) _ h4)) ?_
    split <;> exact strOk_of _
end LW

/-! LwFa: a new list as a cell, anywhere in an expression; loops over a cell of any things. -/
namespace LW
open PySem L2 PyProof.Rows
def eCel (f : Fx (List D)) : SE := fun env st => match f env st with
  | some (xs, s1) => some (.cell s1.length, s1 ++ [xs])
  | none => none
section
variable {mg : Glob} {N N' : Prot} {c c' : List Addr} {H H' : Hp} {st st' : Sto} {v : V} {xs : List D}
theorem Wd.cellN {p : Addr} {vs : List V} (W : Wd mg N c H st) (np : N p) (nc : p ∉ c) (hp : H p = some (.lst vs)) (r : RepL mg N c H vs xs) : Wd mg N (c ++ [p]) H (st ++ [xs]) := by
  have hl := W.len
  have tr : Tr N c H N (c ++ [p]) H := ⟨fun _ _ e _ => e, fun a z => .inl z, fun k a e => by rw [List.getElem?_append_left (List.getElem?_eq_some_iff.mp e).1]; exact e, fun _ _ e => e⟩
  refine ⟨by rw [List.length_append, List.length_append, hl]; rfl, fun k a ys h1 h2 => ?_, fun a z => ?_, ?_, W.trk⟩
  · by_cases hk : k < c.length
    · rw [List.getElem?_append_left hk] at h1
      rw [List.getElem?_append_left (by omega)] at h2
      obtain ⟨us, ha, rr⟩ := W.sto k a ys h1 h2
      exact ⟨us, ha, rr.tr tr⟩
    · rw [List.getElem?_append_right (by omega)] at h1 h2
      by_cases e : k - c.length = 0
      · rw [e] at h1
        rw [← hl, e] at h2
        cases h1
        cases h2
        exact ⟨_, hp, .l (r.tr tr)⟩
      · rw [List.getElem?_eq_none (by simp; omega)] at h1
        cases h1
  · rcases List.mem_append.mp z with z | z
    · exact W.cn a z
    · have e : a = p := by simpa using z
      rw [e]; exact np
  · exact List.nodup_append.mpr ⟨W.nd, by simp, fun a ha b hb => by
      have e : b = p := by simpa using hb
      rw [e]
      exact fun z => nc (z ▸ ha)⟩
theorem RN.cel (W : Wd mg N c H st) (x : Ex N c H N' c' H') (W' : Wd mg N' c' H' st') (h : RN mg N c H N' c' H' v xs) : ∃ c'', Ex N c H N' c'' H' ∧ Wd mg N' c'' H' (st' ++ [xs]) ∧ Rep mg N' c'' H' v (.cell st'.length) := by
  obtain ⟨p, vs, rfl, hn, np, nc, hp, r⟩ := h
  refine ⟨c' ++ [p], ⟨x.keep, x.new, x.mono, fun k a e => ?_, fun a z => ?_⟩, W'.cellN np nc hp r, .cell ?_⟩
  · have e' := x.pre k a e
    rw [List.getElem?_append_left (List.getElem?_eq_some_iff.mp e').1]
    exact e'
  · rcases List.mem_append.mp z with z | z
    · exact x.newc a z
    · have e : a = p := by simpa using z
      rw [e]; exact .inr hn
  · rw [← W'.len, List.getElem?_append_right (Nat.le_refl _)]
    simp
end
section
variable {mg : Glob} {X : Cx} {e : Expr} {f : Fx (List D)}
theorem d_cell (h : PE X e (tL mg f)) : PE X e (tE mg (eCel f)) := pe_weak h fun σ H Q ⟨E, N, c, env, st, d, st', R, q, k⟩ => by
  unfold eCel at q
  split at q
  · rename_i xs s1 q1
    cases q
    refine ⟨E, N, c, env, st, xs, s1, R, q1, fun v N' c' H' x W r => ?_⟩
    obtain ⟨c'', x2, W2, r2⟩ := r.cel R.wd x W
    exact k v N' c'' H' x2 W2 r2
  · cases q
end
/-! ### loops over a cell of any things -/
open Classical in
noncomputable def iSeqW (f : SE) : Fx Src := fun env st => match f env st with
  | some (.lst xs, s1) => some ((xs, noChk), s1)
  | some (.tup xs, s1) => some ((xs, noChk), s1)
  | some (.cell k, s1) => match lcG s1 k with
    | some xs => some ((xs, fun st => decide (lcG st k = some xs)), s1)
    | none => none
  | _ => none
section
variable {mg : Glob} {N : Prot} {c : List Addr} {H : Hp} {K : PySem.W.Frag}
open Classical in
theorem il_cellW {k : Nat} {a : Addr} {xs : List D} (hk : c[k]? = some a) : ItL mg (Itl K a) (xs, fun st => decide (lcG st k = some xs)) N c H := by
  have look : ∀ N' c' H' (st : Sto), Sx N c H N' c' H' → Wd mg N' c' H' st → decide (lcG st k = some xs) = true → ∃ vs, H' a = some (.lst vs) ∧ RepL mg N' c' H' vs xs := fun N' c' H' st sx W e => W.lstC (sx.pre k a hk) (of_decide_eq_true e)
  refine ⟨fun N' c' H' st sx W e => ?_, fun i N' c' H' st hi sx W e => ?_, fun i N' c' H' st x H2 hi sx W e y => ?_⟩
  · obtain ⟨vs, ha, r⟩ := look N' c' H' st sx W e
    exact ⟨vs, SqL.of ha, by rw [r.length]; exact Nat.le_refl _⟩
  · obtain ⟨vs, ha, r⟩ := look N' c' H' st sx W e
    obtain ⟨v, hv, _⟩ := r.get (List.getElem?_eq_getElem hi)
    exact ⟨vs, v, SqL.of ha, hv⟩
  · obtain ⟨rfl, hy⟩ := y
    obtain ⟨vs, ha, r⟩ := look N' c' _ st sx W e
    obtain ⟨v, hv, rv⟩ := r.get (List.getElem?_eq_getElem hi)
    have e2 := hy vs (SqL.of ha)
    rw [hv] at e2
    cases e2
    exact ⟨xs[i], List.getElem?_eq_getElem hi, Ex.refl, W, rv⟩
end
section
variable {mg : Glob} {X : Cx} {tg e : Expr} {fe : SE}
theorem i_seqW (h : PE X e (tE mg fe)) (hK : X.K = mg.K := by rfl) : PI X tg e (tI mg (iSeqW fe)) := pi_weak (pi_or (pi_list h) (pi_tup h)) fun σ H R' ⟨E, N, c, env, st, xs, st', R, q, k⟩ => by
  unfold iSeqW at q
  split at q
  · rename_i ys s1 q1
    cases q
    refine .inl ⟨E, N, c, env, st, _, _, R, q1, fun v N1 c1 H1 x1 W1 r1 => ?_⟩
    cases r1 with
    | lst ha n r => exact ⟨_, rfl, ⟨_, SqL.of ha⟩, k _ N1 c1 H1 x1 W1 (il_list ha n r)⟩
  · rename_i ys s1 q1
    cases q
    refine .inr ⟨E, N, c, env, st, _, _, R, q1, fun v N1 c1 H1 x1 W1 r1 => ?_⟩
    cases r1 with
    | tup ha r => exact ⟨_, rfl, ⟨_, SqT.of ha⟩, k _ N1 c1 H1 x1 W1 (il_tup ha r)⟩
  · rename_i kk s1 q1
    split at q
    · rename_i ns hn
      cases q
      refine .inl ⟨E, N, c, env, st, _, _, R, q1, fun v N1 c1 H1 x1 W1 r1 => ?_⟩
      cases r1 with
      | cell hk =>
        obtain ⟨vs, ha, _⟩ := W1.lstC hk hn
        exact ⟨_, rfl, ⟨_, SqL.of ha⟩, k _ N1 c1 H1 x1 W1 (il_cellW hk)⟩
    · cases q
  · cases q
end
section
variable {env : Env} {st : Sto} {fe : SE} {f : Fx (List D)} {Q : D → Sto → Prop} {QI : Src → Sto → Prop}
theorem z_cel (h : Ok (f env st) fun xs s => Q (.cell s.length) (s ++ [xs])) : Ok (eCel f env st) Q := by
  obtain ⟨xs, s, e, q⟩ := h
  exact ⟨_, _, by unfold eCel; rw [e], q⟩
theorem z_seqW (h : Ok (fe env st) fun d s => ∃ xs, (d = .lst xs ∨ d = .tup xs) ∧ QI (xs, noChk) s) : Ok (iSeqW fe env st) QI := by
  obtain ⟨d, s, e, xs, h, q⟩ := h
  rcases h with rfl | rfl
  · exact ⟨_, s, by unfold iSeqW; rw [e], q⟩
  · exact ⟨_, s, by unfold iSeqW; rw [e], q⟩
open Classical in
theorem z_seqWC (h : Ok (fe env st) fun d s => ∃ k xs, d = .cell k ∧ lcG s k = some xs ∧ QI (xs, fun s => decide (lcG s k = some xs)) s) : Ok (iSeqW fe env st) QI := by
  obtain ⟨d, s, e, k, xs, rfl, h, q⟩ := h
  exact ⟨_, s, by unfold iSeqW; rw [e]; dsimp only; rw [h], q⟩
end
end LW

/-! LwFb: classes whose __init__ may raise. -/
namespace LW
open PySem L2 PyProof.Rows
inductive RIX where
  | ok (ns : List Str) (vs : List D) | ex (cn : Str) (d : D)
abbrev FIX := List D → Sto → Option (RIX × Sto)
section
variable {P : Program} {w : World} {K : PySem.W.Frag} {mg : Str → Option Value} {base : Heap}
end
section
variable {mg : Glob} {X : Cx} {W : WX} {k : Nat} {f C : Addr} {fd : FuncData} {ps : List Str} {g : FIX} {n : Nat} {dvs : List V} {ds : List Value} {dd : List D} {x : Str} {p pos : Pos} {e : Expr} {es : List Expr} {fs : SA}
end
end LW

/-! LwFc: short words for classes whose __init__ may raise. -/
namespace LW
open PySem L2 PyProof.Rows
section
variable (P : Program) (w : World) (K : PySem.W.Frag) (mg : Str → Option Value) (base : Heap)
end
section
variable {P : Program} {w : World} {K : PySem.W.Frag} {mg : Str → Option Value} {base : Heap} {k n : Nat} {cn qual : Str} {C : Addr} {st : Stmt} {nm ps : List Str} {body : SX}
end
section
variable {mg : Glob} {X : Cx} {W : WX} {k n : Nat} {C : Addr} {ps : List Str} {g : FIX} {x : Str} {p pos : Pos} {e : Expr} {es : List Expr} {fs : SA}
end
/-! ### forward rules -/
section
variable {env : Env} {st : Sto} {QE : RX → Sto → Prop}
end
end LW

/-! LwFd: xs == [] , the things in xs of any kind. -/
namespace L2
open PySem PySem.Spec PyProof.Rows
def rEqN (K : PySem.W.Frag) : R2 := fun x y H Q => ∃ (a b : Addr) (xs : List V), x = .ref a ∧ y = .ref b ∧ SqL K H a xs ∧ SqL K H b [] ∧ Q (.bl xs.isEmpty) H
theorem op_eqN {X : Cx} (hu : X.A.units < cLine) : OpR X (compareOp .Eq) (rEqN X.K) := by
  intro pins s σ H x y v u Q I rx ry h
  obtain ⟨a, b, xs, rfl, rfl, ha, hb, q⟩ := h
  obtain rfl : v = Value.ref a := rx
  obtain rfl : u = Value.ref b := ry
  obtain ⟨us, r1, p1, _⟩ := I.list ha
  obtain ⟨ws, r2, p2, _⟩ := I.list hb
  cases r2
  cases xs with
  | nil =>
    cases r1
    have rc := SeqAt.RcAt.lists (A := X.A) (e := fun _ => true) (plainL_is p1) (plainL_is p2) rfl hu (fun j h1 h2 => absurd h1 (by simp))
    exact rc X.prog X.w X.xe _ ⟨.bl true, H, I, rfl, q⟩
  | cons y ys =>
    have hz : (us.toArray.size != ([] : List Value).toArray.size) = true := by
      have l := r1.length
      rw [List.size_toArray, ← l]
      simp
    have rc := SeqAt.RcAt.lists_lengths (A := X.A) (plainL_is p1) (plainL_is p2) hz hu
    exact rc X.prog X.w X.xe _ ⟨.bl false, H, I, rfl, q⟩
end L2
namespace LW
open PySem L2 PyProof.Rows
/-- xs == [] -/
def oEqN : D → D → Sto → Option D := fun x y st => match lstR st x, y with
  | some xs, .lst [] => some (.bl xs.isEmpty)
  | _, _ => none
theorem ok_eqN {mg : Glob} : OpOk mg (RE mg) (rEqN mg.K) oEqN := by
  intro N c H st u v x y d Q W p1 p2 e k
  unfold oEqN at e
  split at e
  · rename_i xs hx
    cases e
    obtain ⟨a, us, rfl, ha, r⟩ := RepT.read W p1 hx
    obtain ⟨b, vs, rfl, hb, r'⟩ := RepT.read W p2 (xs := []) rfl
    cases r'
    refine ⟨a, b, us, rfl, rfl, ha, hb, ?_⟩
    have : us.isEmpty = xs.isEmpty := by cases r <;> rfl
    rw [this]
    exact k _ N c H Ex.refl W (.bl _)
  · cases e
section
variable {mg : Glob} {X : Cx} {a b : Expr} {pos : Pos} {fa fb : SE}
theorem d_eqN (hu : X.A.units < cLine) (ha : PE X a (tP mg fa)) (hb : PE X b (tP mg fb)) (hK : X.K = mg.K := by rfl) : PE X (.Compare a [.Eq] [b] pos) (tE mg (eOp oEqN fa fb)) := d_cmp (hK ▸ op_eqN hu) ok_eqN back_E ha hb (nomark _)
end
end LW

/-! LwGa: dicts in cells: made, written, cleared. -/
namespace LW
open PySem L2 PyProof.Rows
section
variable {mg : Glob} {N N' : Prot} {c c' : List Addr} {H H' : Hp} {st st' : Sto} {v : V} {xs : List D}
theorem Wd.cellO {p : Addr} {o : HO} (W : Wd mg N c H st) (np : N p) (nc : p ∉ c) (hp : H p = some o) (r : CRep mg N c H o xs) : Wd mg N (c ++ [p]) H (st ++ [xs]) := by
  have hl := W.len
  have tr : Tr N c H N (c ++ [p]) H := ⟨fun _ _ e _ => e, fun a z => .inl z, fun k a e => by rw [List.getElem?_append_left (List.getElem?_eq_some_iff.mp e).1]; exact e, fun _ _ e => e⟩
  refine ⟨by rw [List.length_append, List.length_append, hl]; rfl, fun k a ys h1 h2 => ?_, fun a z => ?_, ?_, W.trk⟩
  · by_cases hk : k < c.length
    · rw [List.getElem?_append_left hk] at h1
      rw [List.getElem?_append_left (by omega)] at h2
      obtain ⟨us, ha, rr⟩ := W.sto k a ys h1 h2
      exact ⟨us, ha, rr.tr tr⟩
    · rw [List.getElem?_append_right (by omega)] at h1 h2
      by_cases e : k - c.length = 0
      · rw [e] at h1
        rw [← hl, e] at h2
        cases h1
        cases h2
        exact ⟨_, hp, r.tr tr⟩
      · rw [List.getElem?_eq_none (by simp; omega)] at h1
        cases h1
  · rcases List.mem_append.mp z with z | z
    · exact W.cn a z
    · have e : a = p := by simpa using z
      rw [e]; exact np
  · exact List.nodup_append.mpr ⟨W.nd, by simp, fun a ha b hb => by
      have e : b = p := by simpa using hb
      rw [e]
      exact fun z => nc (z ▸ ha)⟩
theorem Ex.cellO {p : Addr} (x : Ex N c H N' c' H') (hn : H p = none) : Ex N c H N' (c' ++ [p]) H' := ⟨x.keep, x.new, x.mono, fun k a e => by
    have e' := x.pre k a e
    rw [List.getElem?_append_left (List.getElem?_eq_some_iff.mp e').1]
    exact e', fun a z => by
    rcases List.mem_append.mp z with z | z
    · exact x.newc a z
    · have e : a = p := by simpa using z
      rw [e]; exact .inr hn⟩
theorem RD.cel {d : DK} (W : Wd mg N c H st) (x : Ex N c H N' c' H') (W' : Wd mg N' c' H' st') (h : RD mg N c H N' c' H' v d) : ∃ c'', Ex N c H N' c'' H' ∧ Wd mg N' c'' H' (st' ++ [unC d]) ∧ Rep mg N' c'' H' v (.dcl st'.length) := by
  obtain ⟨p, kvs, rfl, hn, np, nc, hp, hm, r⟩ := h
  refine ⟨c' ++ [p], x.cellO hn, ?_, .dcl ?_⟩
  · have := W'.cellO np nc hp (CRep.k r)
    rw [hm] at this
    exact this
  · rw [← W'.len, List.getElem?_append_right (Nat.le_refl _)]
    simp
end
/-- a new dict as a cell -/
def eDcl (f : Fx DK) : SE := fun env st => match f env st with
  | some (d, s1) => some (.dcl s1.length, s1 ++ [unC d])
  | none => none
section
variable {mg : Glob} {X : Cx} {e : Expr} {f : Fx DK}
theorem d_dcl (h : PE X e (tD mg f)) : PE X e (tE mg (eDcl f)) := pe_weak h fun σ H Q ⟨E, N, c, env, st, d, st', R, q, k⟩ => by
  unfold eDcl at q
  split at q
  · rename_i xs s1 q1
    cases q
    refine ⟨E, N, c, env, st, xs, s1, R, q1, fun v N' c' H' x W r => ?_⟩
    obtain ⟨c'', x2, W2, r2⟩ := r.cel R.wd x W
    exact k v N' c'' H' x2 W2 r2
  · cases q
end
/-- d[k] = e, d a dict in a cell -/
def sPutDC (fo fk fe : SE) : SS := fun env st => match fe env st with
  | some (d, s1) => match fo env s1 with
    | some (.dcl k, s2) => match fk env s2 with
      | some (y, s3) => match keyD y with
        | some kk => match dcU s3 k with
          | some p => if p.1.length < 1000000 then some (.nx env, s3.set k (unC (putKD p kk d))) else none
          | none => none
        | none => none
      | none => none
    | _ => none
  | none => none
/-- d.clear() -/
def sClrC (fo : SE) : SS := fun env st => match fo env st with
  | some (.dcl k, s1) => match dcU s1 k with
    | some _ => some (.nx env, s1.set k (unC ([], [])))
    | none => none
  | _ => none
section
variable {mg : Glob} {X : Cx} {e o ek : Expr} {pos apos cpos tpos : Pos} {fe fo fk : SE}
theorem s_putDC (hu : X.A.units + 1 < cLine) (he : PE X e (tE mg fe)) (ho : PE X o (tE mg fo)) (hj : PE X ek (tP mg fk)) (hs : swapsWith e (some (.Subscript o ek tpos)) pos.line X.env = pure false := by rfl) :
    PS X (.Assign [.Subscript o ek tpos] e pos) (tS mg (sPutDC fo fk fe)) :=
  ps_weak (ps_dput hu ho hj he hs) fun De σ H h => by
    obtain ⟨E, N, c, env, st, o, st', R, q, p⟩ := tS_def.mp h
    unfold sPutDC at q
    split at q
    · rename_i d s1 q1
      split at q
      · rename_i k s2 q2
        split at q
        · rename_i y s3 q3
          split at q
          · rename_i kk hk
            split at q
            · rename_i pp hx
              split at q
              · rename_i hl
                cases q
                refine ⟨E, N, c, env, st, d, s1, R, q1, fun v N1 c1 H1 x1 W1 r1 => ?_⟩
                refine ⟨E, N1, c1, env, s1, _, s2, R.ex x1 W1, q2, fun w N2 c2 H2 x2 W2 r2 => ?_⟩
                have x12 := x1.trans x2 R.wd
                cases r2 with
                | dcl hc =>
                  rename_i a
                  refine ⟨E, N2, c2, env, s2, _, s3, R.ex x12 W2, q3, fun z N3 c3 H3 x3 W3 r3 => ?_⟩
                  have x13 := x12.trans x3 R.wd
                  have R3 := R.ex x13 W3
                  have hk3 := x3.pre k a hc
                  obtain ⟨kvs, hb, hm, r4⟩ := W3.dcU hk3 hx
                  have rv : Rep mg N3 c3 H3 v d := Rep.tr (x3.tr W2) (Rep.tr (x2.tr W1) r1)
                  obtain ⟨m1, m2⟩ := put_rel (k := kk) rv r4
                  have em : (kvs.map (·.1), pp.2) = pp := by rw [hm]
                  rw [em] at m1 m2
                  have cr := CRep.k m2
                  rw [m1] at cr
                  have wr := R3.writeCO hk3 cr
                  have ew := r3.key hk
                  subst ew
                  refine ⟨a, _, rfl, DPut.k hb ?_, p N3 c3 σ _ ((x13.sx R.wd W3).trans wr.2) wr.1⟩
                  have : kvs.length = pp.1.length := by rw [← hm, List.length_map]
                  rw [this]
                  exact sz7 hl
              · cases q
            · cases q
          · cases q
        · cases q
      · cases q
    · cases q
end
end LW

/-! LwGb: walks over the keys of a dict in a cell. -/
namespace LW
open PySem L2 PyProof.Rows
open Classical
noncomputable section
end
section
variable {mg : Glob} {N N' : Prot} {c c' : List Addr} {H H' : Hp} {st st' : Sto}
end
section
variable {mg : Glob} {X : Cx} {tg : Expr} {pos : Pos}
variable {eltE : Expr} {ifs : List Expr} {scope : Scope} {own : List (Str × Nat)} {asg : D → Env → Option Env} {cond : SB} {elt : SE} {g : TG} {is : List Nat}
end
end LW
namespace LW
open PySem L2 PyProof.Rows
open Classical
section
variable {mg : Glob} {X : Cx} {tg : Expr} {body : List Stmt} {pos : Pos} {fb : SS} {asg : D → Env → Option Env} {g : TG} {is : List Nat}
end
/-! ### how mirrors run -/
section
variable {asg : D → Env → Option Env} {cond : SB} {elt : SE} {env0 : Env} {st : Sto} {vs : List Nat} {QL : List D → Sto → Prop} {i k : Nat} {p : DK} {fb : SS} {QO : Out → Sto → Prop}
theorem dcU_of {st : Sto} {k : Nat} {p : DK} (h : st[k]? = some (unC p)) : dcU st k = some p := by
  unfold dcU
  rw [h]
  rfl
theorem dcG_of {st : Sto} {k : Nat} {p : DK} (h : st[k]? = some (unC p)) : dcG st k = some p := by
  unfold dcG
  rw [h]
  rfl
end
end LW

/-! LwGc: == and != of equal things whatever the order of their dicts' keys, lists and dicts in cells too. -/
namespace LW
open PySem L2 PyProof.Rows
section
variable {X : Cx}
end
/-! ### equal data, with a store -/
section
variable {mg : Glob} {N : Prot} {c : List Addr} {H : Hp} {st : Sto}
end
section
variable {mg : Glob} {X : Cx} {a b : Expr} {pos : Pos} {fa fb : SE}
end
end LW

/-! LwGd: while; len(d), list(d), dict(d) of a dict of the frame's own; len(set(list of texts)). -/
namespace LW
open PySem L2 PySem.Spec PyProof.Rows
/-! ### while, at most n turns -/
def wLoop (cond : SB) (body : SS) : Nat → SS
  | 0 => fun _ _ => none
  | n + 1 => fun env st => match cond env st with
    | none => none
    | some (false, s1) => some (.nx env, s1)
    | some (true, s1) => match body env s1 with
      | some (.nx e2, s2) => wLoop cond body n e2 s2
      | some (.ct e2, s2) => wLoop cond body n e2 s2
      | some (.bk e2, s2) => some (.nx e2, s2)
      | some (.rt d, s2) => some (.rt d, s2)
      | none => none
def sWhile (n : Nat) (cond : SB) (body : SS) : SS := wLoop cond body n
section
variable {mg : Glob} {X : Cx} {c : Expr} {body : List Stmt} {pos : Pos} {cond : SB} {fb : SS} {n : Nat}
theorem r_while {De : Ends} {σ : L2.St} {H : Hp} (h : tS mg (sWhile n cond fb) De σ H) : tWhile (tT mg cond) (tS mg fb) De σ H := by
  obtain ⟨E, N, c, env, st, o, st', R, q, p⟩ := tS_def.mp h
  refine ⟨fun m σ' H' => ∃ N' c' env' st2, Sx N c H N' c' H' ∧ Rel mg E N' c' env' st2 σ' H' ∧ wLoop cond fb m env' st2 = some (o, st'), ⟨n, N, c, env, st, Sx.refl, R, q⟩, ?_⟩
  rintro m σ' H' ⟨N', c', env', st2, sx, R', ql⟩
  cases m with
  | zero => cases ql
  | succ m =>
    unfold wLoop at ql
    split at ql
    · cases ql
    · rename_i s1 qc
      cases ql
      exact ⟨E, N', c', env', st2, false, _, R', qc, fun N3 c3 H3 x3 W3 => by
        show (if false = true then _ else _)
        rw [if_neg (by decide)]
        exact p N3 c3 σ' H3 (sx.trans (x3.sx R'.wd W3)) (R'.ex x3 W3)⟩
    · rename_i s1 qc
      refine ⟨E, N', c', env', st2, true, s1, R', qc, fun N3 c3 H3 x3 W3 => ?_⟩
      show (if true = true then _ else _)
      rw [if_pos rfl]
      have R3 := R'.ex x3 W3
      have sx3 := sx.trans (x3.sx R'.wd W3)
      refine ⟨fun σ4 H4 => ∃ N4 c4 e4 s4, Sx N c H N4 c4 H4 ∧ Rel mg E N4 c4 e4 s4 σ4 H4 ∧ wLoop cond fb m e4 s4 = some (o, st'), fun σ4 H4 z => ⟨m, Nat.lt_succ_self m, z⟩, ?_⟩
      split at ql
      · rename_i e2 s2 qb
        exact tS_def.mpr ⟨E, N3, c3, env', s1, .nx e2, s2, R3, qb, fun N5 c5 σ5 H5 x5 R5 => ⟨N5, c5, e2, s2, sx3.trans x5, R5, ql⟩⟩
      · rename_i e2 s2 qb
        exact tS_def.mpr ⟨E, N3, c3, env', s1, .ct e2, s2, R3, qb, fun N5 c5 σ5 H5 x5 R5 => ⟨N5, c5, e2, s2, sx3.trans x5, R5, ql⟩⟩
      · rename_i e2 s2 qb
        cases ql
        exact tS_def.mpr ⟨E, N3, c3, env', s1, .bk e2, _, R3, qb, fun N5 c5 σ5 H5 x5 R5 => p N5 c5 σ5 H5 (sx3.trans x5) R5⟩
      · rename_i d2 s2 qb
        cases ql
        exact tS_def.mpr ⟨E, N3, c3, env', s1, .rt d2, _, R3, qb, fun c' H' v F => p c' H' v F⟩
      · cases ql
/-- while cond: .. -/
theorem s_while (n : Nat) (hp : PassesOwn (model X.prog X.w) X.A X.env X.xe) (hc : PT X c (tT mg cond)) (hb : PSs X body (tS mg fb)) : PS X (.While c body [] pos) (tS mg (sWhile n cond fb)) :=
  ps_weak (ps_while hp hc hb) fun _ _ _ h => r_while h
end
section
variable {cond : SB} {body : SS} {env : Env} {st : Sto} {n : Nat} {QS : Out → Sto → Prop}
theorem wl_no {s1 : Sto} (h : cond env st = some (false, s1)) (q : QS (.nx env) s1) : Ok (wLoop cond body (n + 1) env st) QS := ⟨_, _, by
  show (match cond env st with
    | none => none
    | some (false, s1) => some (Out.nx env, s1)
    | some (true, s1) => match body env s1 with
      | some (.nx e2, s2) => wLoop cond body n e2 s2
      | some (.ct e2, s2) => wLoop cond body n e2 s2
      | some (.bk e2, s2) => some (Out.nx e2, s2)
      | some (.rt d, s2) => some (Out.rt d, s2)
      | none => none) = _
  rw [h], q⟩
theorem wl_yes {s1 s2 : Sto} {e2 : Env} (h : cond env st = some (true, s1)) (hb : body env s1 = some (.nx e2, s2)) (q : Ok (wLoop cond body n e2 s2) QS) : Ok (wLoop cond body (n + 1) env st) QS := by
  obtain ⟨a, s, e, q⟩ := q
  refine ⟨a, s, ?_, q⟩
  show (match cond env st with
    | none => none
    | some (false, s1) => some (Out.nx env, s1)
    | some (true, s1) => match body env s1 with
      | some (.nx e2, s2) => wLoop cond body n e2 s2
      | some (.ct e2, s2) => wLoop cond body n e2 s2
      | some (.bk e2, s2) => some (Out.nx e2, s2)
      | some (.rt d, s2) => some (Out.rt d, s2)
      | none => none) = _
  rw [h]
  dsimp only
  rw [hb]
  exact e
end
/-! ### len(d), list(d) -/
section
variable {mg : Glob} {X : Cx} {e : Expr} {es : List Expr} {p pos : Pos} {f : SA}
end
/-! ### dict(x), x a dict of the frame's own -/
def eDictO (i : Nat) : Fx DK := fun env st => match env[i]? with
  | some (.ownD ks ds) => some ((ks, ds), st)
  | _ => none
/-! ### len(set(list of texts)) -/
def eLenSN (fa : SE) : SE := fun env st => match fa env st with
  | some (x, s1) => (match lstS s1 x with
    | some zs => if zs.length < 64 then some (.int (sortN zs).length, s1) else none
    | none => none)
  | none => none
end LW

/-! LwGe: x = [.. for .. in .. for .. in ..]. -/
namespace LW
open PySem L2 PyProof.Rows
section
variable {mg : Glob} {X : Cx} {fi fi2 : Fx Src} {asg asg2 : D → Env → Option Env} {cond cond2 : SB} {elt : SE} {g g2 : TG} {is is2 vs2 : List Nat} {eltE tg iter tg1 iter1 : Expr} {ifs ifs1 : List Expr} {scope : Scope} {own : List (Str × Nat)} {pos : Pos}
end
end LW

/-! LwGf: how mirrors with dicts in cells run. -/
namespace LW
open PySem L2
@[reducible] def AsDc : D → (Nat → Prop) → Prop
  | .dcl b, Q => Q b
  | _, _ => False
theorem AsDc.of {d : D} {Q : Nat → Prop} (h : AsDc d Q) : ∃ b, d = .dcl b ∧ Q b := by
  cases d <;> first | exact ⟨_, rfl, h⟩ | exact h.elim
section
variable {env : Env} {st : Sto} {Q : D → Sto → Prop} {QB : Bool → Sto → Prop} {QK : DK → Sto → Prop} {QL : List D → Sto → Prop} {QS : Out → Sto → Prop} {i : Nat} {d : D} {fa fb fe fo fk : SE} {f : Fx DK} {fs : SA}
theorem z_dcl (h : Ok (f env st) fun d s1 => Q (.dcl s1.length) (s1 ++ [unC d])) : Ok (eDcl f env st) Q := by
  obtain ⟨d, s1, e1, h⟩ := h
  exact ⟨_, _, by unfold eDcl; rw [e1], h⟩
theorem z_putDC (h : Ok (fe env st) fun d s1 => Ok (fo env s1) fun o s2 => AsDc o fun k => Ok (fk env s2) fun y s3 => ∃ kk p, keyD y = some kk ∧ s3[k]? = some (unC p) ∧ p.1.length < 1000000 ∧ QS (.nx env) (s3.set k (unC (putKD p kk d)))) : Ok (sPutDC fo fk fe env st) QS := by
  obtain ⟨d, s1, e1, o, s2, e2, h⟩ := h
  obtain ⟨k, rfl, y, s3, e3, kk, p, e4, e5, l, q⟩ := h.of
  exact ⟨_, _, by unfold sPutDC; rw [e1]; dsimp only; rw [e2]; dsimp only; rw [e3]; dsimp only; rw [e4]; dsimp only; rw [dcU_of e5]; dsimp only; rw [if_pos l], q⟩
theorem z_clrC (h : Ok (fo env st) fun o s1 => AsDc o fun k => ∃ p, s1[k]? = some (unC p) ∧ QS (.nx env) (s1.set k (unC ([], [])))) : Ok (sClrC fo env st) QS := by
  obtain ⟨o, s1, e1, h⟩ := h
  obtain ⟨k, rfl, p, e2, q⟩ := h.of
  exact ⟨_, _, by unfold sClrC; rw [e1]; dsimp only; rw [dcU_of e2], q⟩
theorem z_dictO {ks : List Key} {ds : List D} (e : env[i]? = some (.ownD ks ds)) (q : QK (ks, ds) st) : Ok (eDictO i env st) QK := ⟨_, st, by unfold eDictO; rw [e], q⟩
theorem z_lenSN (h : Ok (fe env st) fun x s => ∃ zs, lstS s x = some zs ∧ zs.length < 64 ∧ Q (.int (sortN zs).length) s) : Ok (eLenSN fe env st) Q := by
  obtain ⟨x, s1, e1, zs, e2, l, q⟩ := h
  exact ⟨_, s1, by unfold eLenSN; rw [e1]; dsimp only; rw [e2]; dsimp only; rw [if_pos l], q⟩
theorem z_lc2 {fi fi2 : Fx Src} {asg asg2 : D → Env → Option Env} {cond cond2 : SB} {elt : SE} {vs vs2 : List Nat} (h : Ok (fi env st) fun xs s1 => Ok (comp2M xs.2 asg cond fi2 asg2 cond2 elt vs2 (wipeE env vs) xs.1 s1) fun ys s => ys.length ≤ 1000000 ∧ QL ys s) : Ok (lComp2 fi asg cond fi2 asg2 cond2 elt vs vs2 env st) QL := by
  obtain ⟨x, s1, e1, ys, s, e2, l, q⟩ := h
  exact ⟨_, _, by unfold lComp2; rw [e1]; dsimp only; rw [e2]; dsimp only; rw [if_pos l], q⟩
end
end LW

/-! LwGg: d.get(k, x), list(d.items()) of a dict in a cell. -/
namespace LW
open PySem L2 PyProof.Rows
/-- d.get(k, x) -/
def eGet (fo fk fx : SE) : SE := fun env st => match fo env st with
  | some (o, s1) => match dicG s1 o with
    | some _ => match fk env s1 with
      | some (y, s2) => match keyD y with
        | some k => match fx env s2 with
          | some (x, s3) => match dicG s3 o with
            | some p => some (match getD p.1 p.2 k with | some d => d | none => x, s3)
            | none => none
          | none => none
        | none => none
      | none => none
    | none => none
  | none => none
theorem get_none {mg : Glob} {N : Prot} {c : List Addr} {H : Hp} : ∀ {kvs : List (Key × V)} {ds : List D} {k : Key}, RepL mg N c H (kvs.map (·.2)) ds → getD (kvs.map (·.1)) ds k = none → valV kvs k = none
  | [], _, _, _, _ => rfl
  | kv :: r, _, k, .cons h t, e => by
    rw [List.map_cons] at e
    unfold getD at e
    by_cases q : kv.1 = k
    · rw [if_pos q] at e
      cases e
    · rw [if_neg q] at e
      have ih := get_none t e
      cases hv : valV (kv :: r) k with
      | none => rfl
      | some v =>
        exfalso
        have a := has_rel (kvs := kv :: r) (k := k)
        rw [hv] at a
        have b := has_rel (kvs := r) (k := k)
        rw [ih] at b
        have b : k ∉ r.map (·.1) := of_decide_eq_false b.symm
        have a : k ∈ (kv :: r).map (·.1) := of_decide_eq_true a.symm
        rw [List.map_cons] at a
        rcases List.mem_cons.mp a with z | z
        · exact q z.symm
        · exact b z
section
variable {mg : Glob} {X : Cx} {o e f : Expr} {apos cpos pos p : Pos} {fo fk fx : SE}
theorem d_get (hu : X.A.units + 1 < cLine) (ho : PE X o (tP mg fo)) (he : PE X e (tP mg fk)) (hf : PE X f (tE mg fx)) (m : M2 X o "get" apos e f cpos) : PE X (.Call (.Attribute o "get" apos) [e, f] [] cpos) (tE mg (eGet fo fk fx)) :=
  pe_weak (pe_dget2 hu ho he hf m) fun σ H Q ⟨E, N, c, env, st, d, st', R, q, k⟩ => by
    unfold eGet at q
    split at q
    · rename_i o' s1 q1
      split at q
      · rename_i p0 e0
        split at q
        · rename_i y s2 q2
          split at q
          · rename_i kk hk
            split at q
            · rename_i x s3 q3
              split at q
              · rename_i pp e3
                refine ⟨E, N, c, env, st, o', s1, R, q1, fun u N1 c1 H1 x1 W1 p1 => ?_⟩
                obtain ⟨a, kvs, rfl, ha, hn, r⟩ := RepT.dicG W1 p1 e0
                refine ⟨a, rfl, .inl ⟨kvs, ha⟩, ?_⟩
                refine ⟨E, N1, c1, env, s1, y, s2, R.ex x1 W1, q2, fun w N2 c2 H2 x2 W2 p2 => ?_⟩
                have x12 := x1.trans x2 R.wd
                refine ⟨E, N2, c2, env, s2, x, s3, R.ex x12 W2, q3, fun z N3 c3 H3 x3 W3 p3 => ?_⟩
                have x13 := x12.trans x3 R.wd
                have p1' := RepT.ex x3 W2 (RepT.ex x2 W1 p1)
                obtain ⟨a', kvs', ea, ha', hn', r'⟩ := RepT.dicG W3 p1' e3
                cases ea
                refine ⟨_, .inl ⟨kvs', kk, ha', RepT.key p2 hk, rfl⟩, ?_⟩
                injection q with q
                injection q with qd qs
                subst qs
                cases hg : getD pp.1 pp.2 kk with
                | some d' =>
                  rw [hg] at qd
                  dsimp only at qd
                  subst qd
                  rw [← hn'] at hg
                  obtain ⟨v, hv, rv⟩ := get_rel r' hg
                  rw [hv]
                  exact k v N3 c3 H3 x13 W3 rv
                | none =>
                  rw [hg] at qd
                  dsimp only at qd
                  subst qd
                  rw [← hn'] at hg
                  rw [get_none r' hg]
                  exact k z N3 c3 H3 x13 W3 p3
              · cases q
            · cases q
          · cases q
        · cases q
      · cases q
    · cases q
end
section
variable {mg : Glob} {X : Cx} {e : Expr} {apos cpos pos p : Pos} {fo : SE}
end
section
variable {env : Env} {st : Sto} {Q : D → Sto → Prop} {QL : List D → Sto → Prop} {fo fk fx : SE}
theorem z_get (h : Ok (fo env st) fun o s1 => (∃ p, dicG s1 o = some p) ∧ Ok (fk env s1) fun y s2 => ∃ k, keyD y = some k ∧ Ok (fx env s2) fun x s3 => ∃ p, dicG s3 o = some p ∧ Q (match getD p.1 p.2 k with | some d => d | none => x) s3) : Ok (eGet fo fk fx env st) Q := by
  obtain ⟨o, s1, e1, ⟨p, hp⟩, y, s2, e2, k, hk, x, s3, e3, p3, hp3, q⟩ := h
  exact ⟨_, s3, by unfold eGet; rw [e1]; dsimp only; rw [hp]; dsimp only; rw [e2]; dsimp only; rw [hk]; dsimp only; rw [e3]; dsimp only; rw [hp3], q⟩
end
end LW

/-! LwHa: instances in cells: made, read, written, their methods; methods with defaults. -/
namespace LW
open PySem L2 PyProof.Rows
/-- the instance in a cell -/
def ocG (st : Sto) (k : Nat) : Option (Str × List Str × List D) := match st[k]? with
  | some [.dit [_] [], .obj cn ns vs] => some (cn, ns, vs)
  | _ => none
abbrev iC (cn : Str) (ns : List Str) (vs : List D) : List D := [tagD, .obj cn ns vs]
theorem ocG_of {st : Sto} {k : Nat} {cn : Str} {ns : List Str} {vs : List D} (e : st[k]? = some (iC cn ns vs)) : ocG st k = some (cn, ns, vs) := by
  unfold ocG
  rw [e]
  rfl
theorem Wd.ocG {mg : Glob} {N : Prot} {c : List Addr} {H : Hp} {st : Sto} (W : Wd mg N c H st) {k : Nat} {a : Addr} {cn : Str} {ns : List Str} {vs : List D} (hc : c[k]? = some a) (e : ocG st k = some (cn, ns, vs)) :
    ∃ C dx fs, H a = some (.ins C dx fs) ∧ mg.mg cn = some (.ref C) ∧ fs.map (·.1) = ns ∧ RepL mg N c H (fs.map (·.2)) vs := by
  unfold LW.ocG at e
  split at e
  · rename_i h
    cases e
    obtain ⟨o, ha, r⟩ := W.sto k a _ hc h
    cases r with
    | l r => have := r.noTag; cases this
    | i hC r => exact ⟨_, _, _, ha, hC, rfl, r⟩
  · cases e
/-! ### made -/
def eMakeC (cn : Str) (g : FI) (dd : List D) (f : SA) : SE := fun env st => match f env st with
  | none => none
  | some (ds, s1) => match g (ds ++ dd) s1 with
    | none => none
    | some ((ns, fds), s2) => some (.ocl s2.length, s2 ++ [iC cn ns fds])
section
variable {mg : Glob} {X : Cx} {k : Nat} {f C : Addr} {fd : FuncData} {ps : List Str} {g : FI} {n : Nat} {dvs : List V} {ds : List Value} {dd : List D} {x m : Str} {p pos apos : Pos} {e o : Expr} {es : List Expr} {fs : SA} {fo : SE}
end
/-! ### methods -/
def eMethC (cn m : Str) (g : FM) (dd : List D) (fo : SE) (f : SA) : SE := fun env st => match fo env st with
  | some (.ocl k, s1) => match ocG s1 k with
    | some (cn', ns, _) => if cn' = cn ∧ ¬ m ∈ ns then (match f env s1 with
        | none => none
        | some (ds, s2) => g (.ocl k :: (ds ++ dd)) s2) else none
    | none => none
  | _ => none
section
variable {mg : Glob} {X : Cx} {k : Nat} {f C : Addr} {fd : FuncData} {ps : List Str} {g : FM} {n : Nat} {dvs : List V} {ds : List Value} {dd : List D} {x m : Str} {p pos apos : Pos} {e o : Expr} {es : List Expr} {fs : SA} {fo : SE}
/-! ### fields -/
def eFldC (cn m : Str) (fo : SE) : SE := fun env st => match fo env st with
  | some (.ocl k, s1) => match ocG s1 k with
    | some (cn', ns, vs) => if cn' = cn then (match fldD m ns vs with
        | some d => some (d, s1)
        | none => none) else none
    | none => none
  | _ => none
/-- o.m = e -/
def sFldC (cn m : Str) (fo fe : SE) : SS := fun env st => match fe env st with
  | some (d, s1) => match fo env s1 with
    | some (.ocl k, s2) => match ocG s2 k with
      | some (cn', ns, vs) => if cn' = cn ∧ ns.length < 1000 then some (.nx env, s2.set k (iC cn' (putD m d ns vs).1 (putD m d ns vs).2)) else none
      | none => none
    | _ => none
  | none => none
end
/-! ### methods with defaults -/
section
variable (P : Program) (w : World) (K : PySem.W.Frag) (mg : Str → Option Value) (base : Heap)
end
section
variable {P : Program} {w : World} {K : PySem.W.Frag} {mg : Str → Option Value} {base : Heap} {k : Nat} {x m qual cn : Str} {st : Stmt} {nm ps : List Str} {body : SS} {C : Addr}
end
/-! ### short words -/
section
variable {X : Cx} {k : Nat} {C : Addr} {ps : List Str} {g : FM} {gi : FI} {n : Nat} {dvs : List V} {dd : List D} {x m cn : Str} {p pos apos : Pos} {e o a b : Expr} {es : List Expr} {fs : SA} {fo fa fb : SE}
end
/-! ### told backwards -/
@[reducible] def AsOc : D → (Nat → Prop) → Prop
  | .ocl b, Q => Q b
  | _, _ => False
theorem AsOc.of {d : D} {Q : Nat → Prop} (h : AsOc d Q) : ∃ b, d = .ocl b ∧ Q b := by
  cases d <;> first | exact ⟨_, rfl, h⟩ | exact h.elim
section
variable {env : Env} {st : Sto} {Q : D → Sto → Prop} {QS : Out → Sto → Prop} {fe fo : SE} {fs : SA} {cn m : Str} {dd : List D}
theorem z_makeC {g : FI} (h : Ok (fs env st) fun ds s => Ok (g (ds ++ dd) s) fun r s2 => Q (.ocl s2.length) (s2 ++ [iC cn r.1 r.2])) : Ok (eMakeC cn g dd fs env st) Q := by
  obtain ⟨x, s1, e1, r, s2, e2, q⟩ := h
  exact ⟨_, _, by unfold eMakeC; rw [e1]; dsimp only; rw [e2], q⟩
theorem z_methC {g : FM} (h : Ok (fo env st) fun o s1 => AsOc o fun k => ∃ ns vs, s1[k]? = some (iC cn ns vs) ∧ ¬ m ∈ ns ∧ Ok (fs env s1) fun ds s2 => Ok (g (.ocl k :: (ds ++ dd)) s2) Q) : Ok (eMethC cn m g dd fo fs env st) Q := by
  obtain ⟨o, s1, e1, h⟩ := h
  obtain ⟨k, rfl, ns, vs, ek, hm, ds, s2, e2, d, s3, e3, q⟩ := h.of
  exact ⟨d, s3, by unfold eMethC; rw [e1]; dsimp only; rw [ocG_of ek]; dsimp only; rw [if_pos ⟨rfl, hm⟩, e2]; exact e3, q⟩
theorem z_fldC (h : Ok (fo env st) fun o s1 => AsOc o fun k => ∃ ns vs, s1[k]? = some (iC cn ns vs) ∧ Od (fldD m ns vs) fun d => Q d s1) : Ok (eFldC cn m fo env st) Q := by
  obtain ⟨o, s1, e1, h⟩ := h
  obtain ⟨k, rfl, ns, vs, ek, d, e3, q⟩ := h.of
  exact ⟨d, s1, by unfold eFldC; rw [e1]; dsimp only; rw [ocG_of ek]; dsimp only; rw [if_pos rfl, e3], q⟩
theorem z_sfldC (h : Ok (fe env st) fun d s1 => Ok (fo env s1) fun o s2 => AsOc o fun k => ∃ ns vs, s2[k]? = some (iC cn ns vs) ∧ ns.length < 1000 ∧ QS (.nx env) (s2.set k (iC cn (putD m d ns vs).1 (putD m d ns vs).2))) : Ok (sFldC cn m fo fe env st) QS := by
  obtain ⟨d, s1, e1, o, s2, e2, h⟩ := h
  obtain ⟨k, rfl, ns, vs, ek, l, q⟩ := h.of
  exact ⟨_, _, by unfold sFldC; rw [e1]; dsimp only; rw [e2]; dsimp only; rw [ocG_of ek]; dsimp only; rw [if_pos ⟨rfl, l⟩], q⟩
end
end LW

/-! LwIa: methods that may raise; conditional expressions, loops and pairs that may raise; raise C(). -/
namespace LW
open PySem L2 PyProof.Rows
/-! ### methods that may raise -/
def eMethX (cn m : Str) (g : FX) (dd : List D) (fo : SE) (f : SA) : EX := fun env st => match fo env st with
  | some (.obj cn' ns vs, s1) => if cn' = cn ∧ ¬ m ∈ ns then (match f env s1 with
      | none => none
      | some (ds, s2) => g (.obj cn' ns vs :: (ds ++ dd)) s2) else none
  | _ => none
def eMethCX (cn m : Str) (g : FX) (dd : List D) (fo : SE) (f : SA) : EX := fun env st => match fo env st with
  | some (.ocl k, s1) => match ocG s1 k with
    | some (cn', ns, _) => if cn' = cn ∧ ¬ m ∈ ns then (match f env s1 with
        | none => none
        | some (ds, s2) => g (.ocl k :: (ds ++ dd)) s2) else none
    | none => none
  | _ => none
section
variable {mg : Glob} {X : Cx} {W : WX} {k : Nat} {f C : Addr} {fd : FuncData} {ps : List Str} {g : FX} {n : Nat} {dvs : List V} {ds : List Value} {dd : List D} {x m : Str} {p pos apos : Pos} {e o : Expr} {es : List Expr} {fs : SA} {fo : SE}
end
/-! ### short words -/
section
variable (P : Program) (w : World) (K : PySem.W.Frag) (mg : Str → Option Value) (base : Heap)
end
section
variable {P : Program} {w : World} {K : PySem.W.Frag} {mg : Str → Option Value} {base : Heap} {k : Nat} {x m qual : Str} {st : Stmt} {nm ps : List Str} {body : SX} {C : Addr}
end
section
variable {X : Cx} {W : WX} {k : Nat} {C : Addr} {ps : List Str} {g : FX} {m cn : Str} {p pos apos : Pos} {e o : Expr} {es : List Expr} {fs : SA} {fo : SE}
end
/-! ### a if c else b; plain expressions among those that may raise -/
def xIfE (t : SB) (f g : EX) : EX := fun env st => match t env st with
  | some (true, s1) => f env s1
  | some (false, s1) => g env s1
  | none => none
def xEL (f : SE) : EX := fun env st => match f env st with
  | some (d, s1) => some (.ok d, s1)
  | none => none
section
variable {mg : Glob} {X : Cx} {W : WX} {e a b c : Expr} {pos : Pos} {f g : EX} {fe : SE} {t : SB}
theorem PostE.from {σ : L2.St} {N N' : Prot} {c c' : List Addr} {H H' : Hp} {st st' : Sto} {Q : VK} {r : RX} (x : Ex N c H N' c' H') (W0 : Wd mg N c H st) (p : PostE mg W σ N c H Q r st') : PostE mg W σ N' c' H' Q r st' := by
  cases r with
  | ok d => exact fun v N2 c2 H2 x2 W2 r2 => p v N2 c2 H2 (x.trans x2 W0) W2 r2
  | ex cn d => exact fun N2 c2 H2 cls da x2 W2 z => p N2 c2 H2 cls da (x.trans x2 W0) W2 z
end
/-! ### for -/
def loopX (chk : Sto → Bool) (asg : D → Env → Option Env) (body : SX) : List D → Env → Sto → Option (OutX × Sto)
  | [], env, st => if chk st = true then some (.o (.nx env), st) else none
  | d :: ds, env, st => if chk st = true then (match asg d env with
    | none => none
    | some e1 => match body e1 st with
      | some (.o (.nx e2), s2) => loopX chk asg body ds e2 s2
      | some (.o (.ct e2), s2) => loopX chk asg body ds e2 s2
      | some (.o (.bk e2), s2) => some (.o (.nx e2), s2)
      | some (.o (.rt d), s2) => some (.o (.rt d), s2)
      | some (.ex cn d e2, s2) => some (.ex cn d e2, s2)
      | none => none) else none
def xFor (fi : Fx Src) (asg : D → Env → Option Env) (body : SX) : SX := fun env st => match fi env st with
  | none => none
  | some (xs, s1) => loopX xs.2 asg body xs.1 env s1
section
variable {mg : Glob} {X : Cx} {W : WX} {tg iter : Expr} {body : List Stmt} {pos : Pos} {fi : Fx Src} {asg : D → Env → Option Env} {fb : SX} {g : TG} {is : List Nat}
end
/-! ### a, b = x, y: the first may raise -/
def xPar2 (i j : Nat) (f : EX) (g : Fx Sl) : SX := fun env st => match f env st with
  | some (.ok d, s1) => (match g env s1 with
    | some (y, s2) => if i = j then none else some (.o (.nx ((env.set i (.val d)).set j y)), s2)
    | none => none)
  | some (.ex cn d, s1) => some (.ex cn d env, s1)
  | none => none
section
variable {mg : Glob} {X : Cx} {W : WX} {a b : Expr} {pos : Pos} {fa : EX} {fb : Fx Sl}
end
/-! ### raise C(), a class without an own __init__ -/
def xBare (cn : Str) : SX := fun env st => some (.ex cn bareD env, st)
end LW

/-! LwIb: raise C() of a class without an own __init__; len(o) by an own __len__; == of lists of tuples with instances that have an own __eq__. -/
namespace LW
open PySem L2 PyProof.Rows
/-! ### raise C() -/
section
variable {X : Cx} {C : Addr} {x : Str} {p pos pos2 : Pos} {mg : Glob} {W : WX}
end
/-! ### len(o) -/
section
variable {X : Cx} {k : Nat} {f C : Addr} {fd : FuncData} {ps : List Str} {sp : Sp}
end
def isOf (st : Sto) (cn : Str) : D → Bool
  | .obj c _ _ => decide (c = cn)
  | .ocl k => match ocG st k with
    | some (c, _, _) => decide (c = cn)
    | none => false
  | _ => false
def eLenO (cn : Str) (g : FM) (fo : SE) : SE := fun env st => match fo env st with
  | some (d, s1) => if isOf s1 cn d = true then (match g [d] s1 with
    | some (.int n, s2) => if 0 ≤ n ∧ n < 2 ^ 63 then some (.int n, s2) else none
    | _ => none) else none
  | none => none
section
variable {X : Cx} {k : Nat} {C : Addr} {ps : List Str} {g : FM} {cn : Str} {p pos : Pos} {e : Expr} {fo : SE}
end
section
variable {env : Env} {st : Sto} {Q : D → Sto → Prop} {fo : SE} {cn : Str} {g : FM}
theorem z_lenO (h : Ok (fo env st) fun d s1 => isOf s1 cn d = true ∧ Ok (g [d] s1) fun r s2 => ∃ n : Int, r = .int n ∧ 0 ≤ n ∧ n < 2 ^ 63 ∧ Q (.int n) s2) : Ok (eLenO cn g fo env st) Q := by
  obtain ⟨d, s1, e1, hi, r, s2, e2, n, rfl, h0, h1, q⟩ := h
  exact ⟨_, s2, by unfold eLenO; rw [e1]; dsimp only; rw [if_pos hi, e2]; dsimp only; rw [if_pos ⟨h0, h1⟩], q⟩
end
end LW

/-! LwIc: == of two lists of equal data, with instances of one class that has an own __eq__ within. -/
namespace LW
open PySem L2 PyProof.Rows
abbrev nobody : Prot := fun _ => False
section
variable {mg : Glob} {N : Prot} {c : List Addr} {H H' : Hp}
end
section
variable {X : Cx} {k : Nat} {C f : Addr} {fd : FuncData} {g : FM} {cn : Str} {ps : List Str}
end
/-! ### the rule -/
section
variable {X : Cx} {k : Nat} {C : Addr} {cs : List Str} {g : FM} {cn : Str} {a b : Expr} {pos : Pos} {fa fb : SE}
end
section
variable {s : Sto} {Q : D → Prop} {cn : Str} {g : FM} {xs ys : List D}
end
end LW

/-! LwId: one of two readings; a frozen slot ahead of a statement that may raise; comprehensions over the keys of a field's dict; sorted(d.items()). -/
namespace LW
open PySem L2 PyProof.Rows
/-! ### the one reading or the other -/
def xFrz (i : Nat) (f : SX) : SX := fun env st => f (frz i env) st
section
variable {mg : Glob} {X : Cx} {W : WX} {e : Expr} {s : Stmt} {f g : SE} {fx : SX}
end
/-! ### [.. for key in o.m if ..] -/
section
variable {mg : Glob} {X : Cx} {tg : Expr} {pos : Pos} {cn m : Str} {C : Addr}
variable {eltE : Expr} {ifs : List Expr} {scope : Scope} {own : List (Str × Nat)} {asg : D → Env → Option Env} {cond : SB} {elt : SE} {g : TG} {is : List Nat}
end
/-! ### sorted(d.items()) -/
/-- the text of the pair at an address -/
def kx (as : List Addr) (zs : List Str) : Value → Str
  | .ref b => (zs[as.idxOf b]?).getD ""
  | _ => ""
section
variable {prog : Program} {w : World} {A : Around} {s : Shared}
end
end LW

/-! LwIe: sorted(d.items()), d a dict of texts' keys. -/
namespace LW
open PySem PySem.Spec L2 PyProof.Rows
section
variable {X : Cx} {e : Expr} {te : TE} {p apos cpos pos : Pos}
end
/-! ### the mirror -/
def itS (p : DK) (zs : List Str) : List D := (sortS zs).map fun z => .tup [.str z, (getD p.1 p.2 (.inr z)).getD .non]
def eSortIt (fo : SE) : Fx (List D) := fun env st => match fo env st with
  | some (o, s1) => match dicG s1 o with
    | some p => match strKeys p.1 with
      | some zs => some (itS p zs, s1)
      | none => none
    | none => none
  | none => none
section
variable {mg : Glob} {N : Prot} {c : List Addr} {H H' : Hp}
end
section
variable {mg : Glob} {X : Cx} {e : Expr} {apos cpos pos p : Pos} {fo : SE}
end
section
variable {env : Env} {st : Sto} {Q : D → Sto → Prop} {QL : List D → Sto → Prop} {fo : SE}
theorem z_sortIt (h : Ok (fo env st) fun o s1 => ∃ p zs, dicG s1 o = some p ∧ strKeys p.1 = some zs ∧ QL (itS p zs) s1) : Ok (eSortIt fo env st) QL := by
  obtain ⟨o, s1, e1, p, zs, e2, e3, q⟩ := h
  exact ⟨_, s1, by unfold eSortIt; rw [e1]; dsimp only; rw [e2]; dsimp only; rw [e3], q⟩
end
end LW

/-! LwIf: how the mirrors of LwIa … LwIe run, told backwards. -/
namespace LW
open PySem L2
section
variable {env : Env} {st : Sto} {f g : EX} {fx : SX} {fe fo : SE} {fs : SA} {t : SB} {Q : OutX → Sto → Prop} {QE : RX → Sto → Prop} {QD : D → Sto → Prop} {QS : Out → Sto → Prop} {cn m : Str} {i j : Nat}
theorem z_xSet (h : Ok (f env st) fun r s => match r with
    | .ok d => Q (.o (.nx (env.set i (.val d)))) s
    | .ex cn d => Q (.ex cn d env) s) : Ok (xSet i f env st) Q := by
  obtain ⟨r, s, e, q⟩ := h
  cases r with
  | ok d => exact ⟨_, s, by unfold xSet; rw [e], q⟩
  | ex cn d => exact ⟨_, s, by unfold xSet; rw [e], q⟩
theorem z_methX {gx : FX} {dd : List D} (h : Ok (fo env st) fun d s => ∃ ns vs, d = .obj cn ns vs ∧ ¬ m ∈ ns ∧ Ok (fs env s) fun ds s2 => Ok (gx (.obj cn ns vs :: (ds ++ dd)) s2) QE) : Ok (eMethX cn m gx dd fo fs env st) QE := by
  obtain ⟨d, s, e, ns, vs, rfl, hm, ds, s2, e2, q⟩ := h
  unfold eMethX
  rw [e]
  dsimp only
  rw [if_pos ⟨rfl, hm⟩, e2]
  exact q
theorem z_methCX {gx : FX} {dd : List D} (h : Ok (fo env st) fun d s => AsOc d fun k => ∃ ns vs, s[k]? = some (iC cn ns vs) ∧ ¬ m ∈ ns ∧ Ok (fs env s) fun ds s2 => Ok (gx (.ocl k :: (ds ++ dd)) s2) QE) : Ok (eMethCX cn m gx dd fo fs env st) QE := by
  obtain ⟨d, s, e, h⟩ := h
  obtain ⟨k, rfl, ns, vs, hk, hn, ds, s2, e2, q⟩ := h.of
  unfold eMethCX
  rw [e]
  dsimp only
  rw [ocG_of hk]
  dsimp only
  rw [if_pos ⟨rfl, hn⟩, e2]
  exact q
theorem z_xIfE (h : Ok (t env st) fun b s => if b = true then Ok (f env s) QE else Ok (g env s) QE) : Ok (xIfE t f g env st) QE := by
  obtain ⟨b, s, e, q⟩ := h
  unfold xIfE
  rw [e]
  cases b with
  | true => exact q
  | false => exact q
theorem z_xEL (h : Ok (fe env st) fun d s => QE (.ok d) s) : Ok (xEL fe env st) QE := by
  obtain ⟨d, s, e, q⟩ := h
  exact ⟨_, s, by unfold xEL; rw [e], q⟩
theorem z_xPar2 {fg : Fx Sl} (hij : i ≠ j) (h : Ok (f env st) fun r s => match r with
    | .ok d => Ok (fg env s) fun y s2 => Q (.o (.nx ((env.set i (.val d)).set j y))) s2
    | .ex cn d => Q (.ex cn d env) s) : Ok (xPar2 i j f fg env st) Q := by
  obtain ⟨r, s, e, q⟩ := h
  cases r with
  | ok d =>
    obtain ⟨y, s2, e2, q⟩ := q
    exact ⟨_, s2, by unfold xPar2; rw [e]; dsimp only; rw [e2]; dsimp only; rw [if_neg hij], q⟩
  | ex cn d => exact ⟨_, s, by unfold xPar2; rw [e], q⟩
theorem z_xBare (q : Q (.ex cn bareD env) st) : Ok (xBare cn env st) Q := ⟨_, st, rfl, q⟩
theorem z_xFrz (h : Ok (fx (frz i env) st) Q) : Ok (xFrz i fx env st) Q := h
theorem z_xFor {fi : Fx Src} {asg : D → Env → Option Env} {body : SX} (h : Ok (fi env st) fun xs s => Ok (loopX xs.2 asg body xs.1 env s) Q) : Ok (xFor fi asg body env st) Q := by
  obtain ⟨xs, s, e, q⟩ := h
  unfold xFor
  rw [e]
  exact q
end
end LW

/-! LwHb: a head by one kernel run: the facts that a law needs, read by a Hook. -/
namespace LW
open PySem L2 PyProof.Rows
/-- the goal that head_any leaves, from the law's promise; the written part by facts -/
theorem walk_DE {l : PySem.W.OpenLaw} {n k : Nat} {q : Program} {loose : List Str} {XP : (Str → Option Value) → Heap → Prop} {YP : World → Heap → Prop} {d : DefRec} {x : Str} {g : FM}
    (hn : l.most = some n) (hn2 : n ≤ sizeLine) (hdf : d.params.defaults = []) (hr : Room k callerA)
    (F : ∀ (w : World) (mg : Str → Option Value) (fa : Addr) (h : Heap), YP w h → h.Ns mainGlobals mg → mg d.name = some (.ref fa) →
      ∃ K : PySem.W.Frag, K.In h ∧ ∃ fd : FuncData, (∀ (s : Shared) (u : Value), BindsTo s fd ⟨[u], []⟩ [(x, u)]) ∧ ∀ base : Heap, K.In base → base.Ns mainGlobals mg → FnD l.prog w K mg base k fa fd [x] (spM ⟨mg, K⟩ g 1))
    (hg : ∀ ns : List Int, ns.length ≤ n → ∃ st', g [.fro (ns.map D.int)] [] = some (.bl true, st')) :
    PySem.W.WalkO q loose XP YP l.row.toRowW d [] (fun f vs => PySem.call f vs) := by
  refine Att.attach_call hn hdf fun w s₀ s₁ mg mb fa o pm cd doc a vs ns G Y ho hd hcd hmg hobj hints hlen hg' => ?_
  obtain ⟨K, KX, fd, hb, hF⟩ := F w mg fa _ Y G.T.g hmg
  obtain ⟨st', e⟩ := hg ns hlen
  exact law_D KX G.T.g G.T.b G.T.builtins G.T.nolimit hg' hobj hints (Nat.le_trans hlen hn2) hr hF hb fun H hO hS => sp_law (mg := ⟨mg, K⟩) hO hS e
/-! ### the Hook: defs, facts by names, and one Bool more -/
/-! ### facts to words -/
section
variable {K : PySem.W.Frag} {h : Heap} {mg : Str → Option Value} {x cn m qual : Str} {st : Stmt}
theorem ft_of (X : K.In h) (G : h.Ns mainGlobals mg) (c : (He.Fa.glo x).ok K = true) (F : ∃ fd, FunD K x x (defArgs st) (defBody st) (defScope st) [] [] (He.fAd K (x, none)) fd) : FT K mg x st := by
  obtain ⟨fd, F⟩ := F
  exact ⟨_, fd, He.glo_ok X G c, He5.fun_of F⟩
theorem mt_of (c : (He.Fa.meth cn m).ok K = true) (F : ∃ fd, FunD K m qual (defArgs st) (defBody st) (defScope st) [] [] (He.fAd K (cn, some m)) fd) : MT K (He.ga K cn) m qual st := by
  obtain ⟨fd, F⟩ := F
  exact ⟨_, fd, He.meth_ok c, He5.fun_of F⟩
theorem in_of (c : (He.Fa.mkr cn).ok K = true) (F : ∃ fd, FunD K "__init__" qual (defArgs st) (defBody st) (defScope st) [] [] (He.fAd K (cn, some "__init__")) fd) : ∃ f fd, Mk K (He.ga K cn) f ∧ Fun K "__init__" qual st f fd := by
  obtain ⟨fd, F⟩ := F
  exact ⟨_, fd, He.mkr_ok c, He5.fun_of F⟩
theorem isi1_of (hC : mg cn = some (.ref (He.ga K cn))) (e : isB K cn = true) : Isi ⟨mg, K⟩ [cn] := by
  obtain ⟨e1, e⟩ := bsplit e
  obtain ⟨e2, e⟩ := bsplit e
  obtain ⟨e3, e⟩ := bsplit e
  obtain ⟨e4, e⟩ := bsplit e
  obtain ⟨e5, e⟩ := bsplit e
  obtain ⟨e6, e⟩ := bsplit e
  obtain ⟨e7, e⟩ := bsplit e
  obtain ⟨e8, e⟩ := bsplit e
  obtain ⟨e9, e⟩ := bsplit e
  obtain ⟨ea, eb⟩ := bsplit e
  have a := fun t ht => eqB_ok (List.all_eq_true.mp ea t ht)
  have b := fun t ht => eqB_ok (List.all_eq_true.mp eb t ht)
  exact isi1_mk hC (cf_mk e1 e2 e3 (He.eqO_ok e4) (He.eqO_ok e5) (He.eqO_ok e6) (eqB_ok e7) (eqB_ok e8)) (eqB_ok e9) (a "int" (by simp)) (a "str" (by simp)) (a "list" (by simp)) (a "tuple" (by simp)) (a "dict" (by simp)) (a "bool" (by simp)) (a "NoneType" (by simp)) (b "int" (by simp)) (b "str" (by simp)) (b "list" (by simp)) (b "tuple" (by simp)) (b "dict" (by simp)) (b "bool" (by simp))
theorem nf_of {cs : List Str} (hC : ∀ c ∈ cs, mg c = some (.ref (He.ga K c))) (e : nfB K cn cs = true) : NotF ⟨mg, K⟩ cs (He.ga K cn) where
  own n D h hn := by
    obtain ⟨e1, _⟩ := bsplit e
    cases (hC n h).symm.trans hn
    exact List.all_eq_true.mp e1 n h
  blt t := by
    obtain ⟨_, e2⟩ := bsplit e
    have a := fun t ht => List.all_eq_true.mp e2 t ht
    cases t
    · exact a "NoneType" (by simp)
    · exact a "bool" (by simp)
    · exact a "int" (by simp)
    · exact a "str" (by simp)
    · exact a "list" (by simp)
    · exact a "tuple" (by simp)
    · exact a "dict" (by simp)
end
end LW

/-! LwHc: the program's own errors, read by the Hook. -/
namespace LW
open PySem PySem.W L2 PyProof.Rows
open PySem.LeafX PySem.HandSPX
/-! ### what the module's names reach, each address once -/
/-! ### the Hook: defs, facts by names, one Bool more, the own errors -/
theorem andL_ok : ∀ {l : List Bool} {i : Nat} {b : Bool}, andL l = true → l[i]? = some b → b = true
  | x :: l, 0, b, h, e => by
    cases e
    exact (bsplit h).1
  | x :: l, i + 1, b, h, e => andL_ok (bsplit h).2 e
end LW

/-! LwHd: != of lists whose items are compared by the text's own ==; list(d.items()) of any dict. -/
namespace PySem.SeqAt
open AutoSeq1 (wpAny_loadPart')
open MeetsSeq MeetsSeq2 MeetsSeq3 SeqRoads2
section
variable {P : Program} {w : World} {A : Around} {R : Result → Shared → Prop}
end
section
variable {P : Program} {w : World} {A : Around} {E : Value → Shared → Prop} {t : Shared}
end
end PySem.SeqAt
namespace LW
open PySem PySem.Spec L2 PyProof.Rows
section
variable {X : Cx} {n : Nat} {D : Eqv}
end
section
variable {X : Cx} {k : Nat} {C : Addr} {cs : List Str} {g : FM} {cn : Str} {a b : Expr} {pos : Pos} {fa fb : SE}
end
section
variable {s : Sto} {Q : D → Prop} {cn : Str} {g : FM} {xs ys : List D}
end
/-! ### list(d.items()) -/
section
variable {X : Cx} {e : Expr} {te : TE} {p apos cpos pos : Pos}
end
section
variable {mg : Glob} {X : Cx} {e : Expr} {apos cpos pos p : Pos} {fo : SE}
end
section
variable {env : Env} {st : Sto} {QL : List D → Sto → Prop} {fo : SE}
end
end LW

/-! LwHe: == and != of dicts of instances with an own __eq__, the keys in any order. -/
namespace LW
open PySem L2 PyProof.Rows
section
variable {mg : Glob} {X : Cx} {pins : List (Addr × Obj)} {σ : L2.St} {H : Hp} {s : Shared} {N : Prot} {c : List Addr} {st : Sto} {k : Nat} {C : Addr} {cs : List Str} {g : FM} {cn : Str} {E : Value → Shared → Prop}
end
section
variable {X : Cx} {k : Nat} {C : Addr} {cs : List Str} {g : FM} {cn : Str} {a b : Expr} {pos : Pos} {fa fb : SE}
end
end LW

/-! LwJa: walks over dicts whose keys are tuples (printed by mkt.py from LwYc, LwZc). -/
namespace LW
open PySem L2 PyProof.Rows
/-- a heap in which dicts are locked or unlocked -/
structure LkT (N : Prot) (H H' : Hp) : Prop where
  keep : ∀ a o, H a = some o → (∀ kvs, ¬ (o = .dT kvs ∨ ∃ b, o = .frz b (.dT kvs))) → H' a = some o
  dic : ∀ a kvs, Rd H a (.dT kvs) → Rd H' a (.dT kvs)
  ex : ∀ a, N a → H' a = H a
section
variable {mg : Glob} {N : Prot} {c : List Addr} {H H' : Hp} {st : Sto}
theorem LkT.some (l : LkT N H H') {a : Addr} (h : H a ≠ none) : H' a ≠ none := by
  cases e : H a with
  | none => exact absurd e h
  | some o =>
    by_cases q : ∃ kvs, o = .dT kvs ∨ ∃ b, o = .frz b (.dT kvs)
    · obtain ⟨kvs, q⟩ := q
      have : Rd H a (.dT kvs) := q.elim (fun z => .inl (by rw [e, z])) fun ⟨b, z⟩ => .inr ⟨b, by rw [e, z]⟩
      rcases l.dic a kvs this with z | ⟨b, z⟩ <;> rw [z] <;> exact fun y => nomatch y
    · rw [l.keep a o e fun kvs z => q ⟨kvs, z⟩]
      exact fun y => nomatch y
end
/-! ### walks over the keys -/
section
variable {mg : Glob} {X : Cx} {tg : Expr} {pos : Pos}
variable {eltE : Expr} {ifs : List Expr} {scope : Scope} {own : List (Str × Nat)} {asg : D → Env → Option Env} {cond : SB} {elt : SE} {g : TG} {is : List Nat}
end
section
variable {mg : Glob} {N N' : Prot} {c c' : List Addr} {H H' : Hp} {st st' : Sto} {E : En} {env env' : Env} {σ σ' : L2.St} {a : Addr} {od : Obj} {kvs : List (List Key × V)}
end
section
variable {mg : Glob} {X : Cx} {tg : Expr} {body : List Stmt} {pos : Pos} {fb : SS} {asg : D → Env → Option Env} {g : TG} {is : List Nat}
end
end LW

/-! LwJb: dicts whose keys are tuples: read, written, the frame's own (printed by mkt2.py in part). -/
namespace LW
open PySem L2 PyProof.Rows
abbrev DKT : Type := List (List Key) × List D
def memT (k : List Key) (ks : List (List Key)) : Bool := ks.any fun y => decide (y = k)
def putVT : List (List Key) → List D → List Key → D → List D
  | k :: ks, d :: ds, x, y => (if k = x then y else d) :: putVT ks ds x y
  | _, _, _, _ => []
def putKDT (p : DKT) (x : List Key) (y : D) : DKT := if memT x p.1 = true then (p.1, putVT p.1 p.2 x y) else (p.1 ++ [x], p.2 ++ [y])
section
variable {mg : Glob} {N : Prot} {c : List Addr} {H : Hp} {st : Sto} {u : V} {x : D}
def keysD : D → Option (List Key)
  | .tup xs => mapO keyD xs
  | _ => none
theorem RepL.keys : ∀ {k : List Key} {vs : List V}, RepL mg N c H vs (k.map keyV) → vs = k.map kV
  | [], _, .nil => rfl
  | x :: r, _, .cons h t => by
    rw [List.map_cons, RepL.keys t, RepT.key (.inl h) keyD_V]
theorem RepT.dit {ks : List (List Key)} {ds : List D} (h : RepT mg N c H u (.dit ks ds)) : ∃ a kvs, u = .ref a ∧ Rd H a (.dT kvs) ∧ kvs.map (·.1) = ks ∧ RepL mg N c H (kvs.map (·.2)) ds := by
  rcases h with h | ⟨_, _, _, _, e, _⟩
  · cases h with
    | dit h n hn r => exact ⟨_, _, rfl, .inl h, hn, r⟩
    | ditz h n hn r => exact ⟨_, _, rfl, .inr ⟨_, h⟩, hn, r⟩
  · cases e
end
/-! ### d[k] -/
section
variable {mg : Glob} {X : Cx} {a b : Expr} {pos : Pos} {fa fb : SE}
end
/-! ### the frame's own -/
section
variable {mg : Glob} {E : En} {N N' : Prot} {c c' : List Addr} {H H' : Hp} {st st' : Sto} {env : Env} {σ : L2.St}
def frzT (i : Nat) (env : Env) : Env := match env[i]? with
  | some (.ownT ks xs) => env.set i (.val (.dit ks xs))
  | _ => env
theorem Rel.frzT {i : Nat} (R : Rel mg E N c env st σ H) : ∃ N', Rel mg E N' c (LW.frzT i env) st σ H ∧ Sx N c H N' c H := by
  unfold LW.frzT
  split
  · rename_i ks xs he
    obtain ⟨a, kvs, es, ha, hm, r⟩ := R.sl i _ he
    have es := join_some es
    obtain ⟨na, nc, n0⟩ := R.own i _ a he rfl es
    have less : ∀ b, (N b ∧ b ≠ a) → N b := fun b z => z.1
    have tr : Tr N c H (fun b => N b ∧ b ≠ a) c H := Tr.less less
    have il : i < env.length := (List.getElem?_eq_some_iff.mp he).1
    refine ⟨fun b => N b ∧ b ≠ a, ⟨by rw [List.length_set]; exact R.len, fun j s' e => ?_, fun j s' b e ho z => ?_, fun j k s1 s2 b e1 o1 e2 o2 h1 h2 => ?_, R.wd.less less fun b z => ⟨R.wd.cn b z, fun q => nc (q ▸ z)⟩, fun b z => ⟨R.n0 b z, fun q => R.t0 b z (by rw [q]; exact n0)⟩, R.t0, R.base, R.pre, R.newc, fun j cn ns ds b e z => (get_set e).elim (fun q => nomatch q.2) fun q => R.slf j cn ns ds b q.2 z⟩, ⟨fun _ _ e _ => e, fun b z => .inl z.1, fun _ _ z => z, fun _ z => .inl z, fun _ z => z, fun _ _ z => z⟩⟩
    · rcases get_set e with ⟨rfl, rfl⟩ | ⟨ne, e⟩
      · rw [es]
        exact ⟨.ref a, rfl, .dit ha (fun z => z.2 rfl) hm (r.tr tr)⟩
      · have q := R.sl j s' e
        cases s' with
        | un => trivial
        | val d => obtain ⟨v, ev, rv⟩ := q; exact ⟨v, ev, rv.tr tr⟩
        | own ys => obtain ⟨b, us', ev, hb', rv⟩ := q; exact ⟨b, us', ev, hb', rv.tr tr⟩
        | ownI cn ns ds => obtain ⟨b, C, dx, fs, ev, hc, hb', hn, rv⟩ := q; exact ⟨b, C, dx, fs, ev, hc, hb', hn, rv.tr tr⟩
        | ownD ks ds => obtain ⟨b, kvs, ev, hb', hn, rv⟩ := q; exact ⟨b, kvs, ev, hb', hn, rv.tr tr⟩
        | ownT ks ds => obtain ⟨b, kvs, ev, hb', hn, rv⟩ := q; exact ⟨b, kvs, ev, hb', hn, rv.tr tr⟩
    · rcases get_set e with ⟨rfl, rfl⟩ | ⟨ne, e⟩
      · cases ho
      · obtain ⟨z1, z2, z3⟩ := R.own j s' b e ho z
        refine ⟨⟨z1, fun q => ?_⟩, z2, z3⟩
        subst q
        exact ne (R.inj i j _ s' b he rfl e ho es z)
    · rcases get_set e1 with ⟨rfl, rfl⟩ | ⟨n1, e1⟩
      · cases o1
      · rcases get_set e2 with ⟨rfl, rfl⟩ | ⟨n2, e2⟩
        · cases o2
        · exact R.inj j k s1 s2 b e1 o1 e2 o2 h1 h2
  · exact ⟨N, R, Sx.refl⟩
end
def sFrzT (i : Nat) (f : SS) : SS := fun env st => f (frzT i env) st
section
variable {mg : Glob} {X : Cx} {s : Stmt} {f : SS}
end
/-! ### a new dict -/
def RDT (mg : Glob) : Told DKT := fun _ _ H N' c' H' v d => ∃ p kvs, v = .ref p ∧ H p = none ∧ N' p ∧ p ∉ c' ∧ H' p = some (.dT kvs) ∧ kvs.map (·.1) = d.1 ∧ RepL mg N' c' H' (kvs.map (·.2)) d.2
def eDT (f : Fx DKT) : SE := fun env st => (f env st).map fun p => (.dit p.1.1 p.1.2, p.2)
section
variable {mg : Glob} {N N' : Prot} {c c' : List Addr} {H H' : Hp} {st st' : Sto} {v : V} {X : Cx} {e : Expr}
theorem RDT.give {d : DKT} (W : Wd mg N c H st) (x : Ex N c H N' c' H') (W' : Wd mg N' c' H' st') (h : RDT mg N c H N' c' H' v d) : ∃ N'', Ex N c H N'' c' H' ∧ Wd mg N'' c' H' st' ∧ Rep mg N'' c' H' v (.dit d.1 d.2) := by
  obtain ⟨p, kvs, rfl, hp, np, nc, hv, hm, r⟩ := h
  have less : ∀ a, (N' a ∧ a ≠ p) → N' a := fun a z => z.1
  refine ⟨fun a => N' a ∧ a ≠ p, ⟨x.keep, fun a z => x.new a z.1, fun a z => ⟨x.mono a z, fun e => W.trk a z (by rw [e]; exact hp)⟩, x.pre, x.newc⟩, W'.less less fun a z => ⟨W'.cn a z, fun e => nc (e ▸ z)⟩, ?_⟩
  exact .dit hv (fun z => z.2 rfl) hm (r.tr (Tr.less less))
theorem RDT.laid {kvs : List (List Key × V)} {d : DKT} {p : Addr} (W : Wd mg N c H st) (hp : H p = none) (hm : kvs.map (·.1) = d.1) (r : RepL mg N c H (kvs.map (·.2)) d.2) : RDT mg N c H (fun a => N a ∨ a = p) c (upd H p (.dT kvs)) (.ref p) d :=
  ⟨p, kvs, rfl, hp, .inr rfl, W.cnone hp, upd_same, hm, r.tr ((Ex.laidN W hp).tr W)⟩
end
/-- a new empty dict, to have tuples as keys -/
def toT (f : Fx DK) : Fx DKT := fun env st => match f env st with
  | some (([], []), s1) => some (([], []), s1)
  | _ => none
def lT0 : Fx DKT := fun _ st => some (([], []), st)
section
variable {mg : Glob} {X : Cx} {e : Expr} {pos : Pos} {f : Fx DK}
end
/-! ### statements -/
def sOwnT (i : Nat) (f : Fx DKT) : SS := fun env st => match f env st with
  | some (d, s1) => some (.nx (env.set i (.ownT d.1 d.2)), s1)
  | none => none
def sPutT (i : Nat) (fk fe : SE) : SS := fun env st => match fe env st with
  | some (d, s1) => (match fk env s1 with
    | some (y, s2) => (match env[i]? with
      | some (.ownT ks vs) => (match keysD y with
        | some k => if ks.length < 1000000 then some (.nx (env.set i (.ownT (putKDT (ks, vs) k d).1 (putKDT (ks, vs) k d).2)), s2) else none
        | none => none)
      | _ => none)
    | none => none)
  | none => none
section
variable {mg : Glob} {X : Cx} {e ej : Expr} {pos tpos : Pos} {fe fj : SE} {fl : Fx DKT}
end
end LW

/-! LwJc: sorted(d) of a dict whose keys are pairs of a whole number and a text. -/
namespace LW
open PySem L2 PyProof.Rows
/-! ### pairs in order -/
abbrev IS : Type := Int × Str
def leP (p q : IS) : Prop := p.1 < q.1 ∨ (p.1 = q.1 ∧ leS p.2 q.2)
instance {p q : IS} : Decidable (leP p q) := inferInstanceAs (Decidable (p.1 < q.1 ∨ (p.1 = q.1 ∧ leS p.2 q.2)))
/-! ### the sort -/
section
variable {prog : Program} {w : World} {A : Around} {s : Shared}
end
section
variable {X : Cx}
end
section
variable {mg : Glob} {X : Cx} {e : Expr} {es : List Expr} {p pos : Pos} {f : SA}
end
end LW

/-! LwJd: isinstance(d, dict), {k: v}, a, b, c = x, y, dict([]), of dicts whose keys are tuples. -/
namespace LW
open PySem L2 PyProof.Rows
/-! ### isinstance(d, dict) -/
section
variable {mg : Glob} {X : Cx} {e : Expr} {es : List Expr} {p pos : Pos} {f : SA}
end
end LW
/-! ### {k: v} -/
namespace PySem
open Sem (wp)
section
variable {prog : Program} {w : World} {K : Type} [DecidableEq K] {knd : HeapKind prog w K} {A : Around} {E : Value → Shared → Prop} {s : Shared} {env : Env}
end
end PySem
namespace LW
open PySem PySem.Spec L2 PyProof.Rows
def lTd (fk fv : SE) : Fx DKT := fun env st => match fk env st with
  | some (y, s1) => (match keysD y with
    | some k => (match fv env s1 with
      | some (d, s2) => some (([k], [d]), s2)
      | none => none)
    | none => none)
  | none => none
section
variable {mg : Glob} {X : Cx} {pos : Pos} {a b : Expr} {fa fb : SE}
end
/-! ### a, b, c = x, y, dict([]) -/
def sPar3T (i j l : Nat) (fa fb : SE) (fc : Fx DKT) : SS := fun env st => match fa env st with
  | some (x, s1) => match fb env s1 with
    | some (y, s2) => match fc env s2 with
      | some (z, s3) => some (.nx (((env.set i (.val x)).set j (.val y)).set l (.ownT z.1 z.2)), s3)
      | none => none
    | none => none
  | none => none
section
variable {mg : Glob} {X : Cx} {a b c : Expr} {pos : Pos} {fa fb : SE} {fc : Fx DKT}
end
end LW

/-! LwJe: repr of a list with dicts within. -/
namespace LW
open PySem PySem.Spec L2 PyProof.Rows
def keyPy : Key → PyData
  | .inl i => .int i
  | .inr z => .str z
mutual
inductive DpD (H : Hp) : V → PyData → Prop where
  | non : DpD H .non .none
  | bl (b : Bool) : DpD H (.bl b) (.bool b)
  | int (i : Int) : DpD H (.int i) (.int i)
  | str (x : Str) : DpD H (.str x) (.str x)
  | tup {a : Addr} {vs : List V} {ds : List PyData} (h : H a = some (.tup vs)) (r : DpDs H vs ds) : DpD H (.ref a) (.tuple ds)
  | dK {a : Addr} {kvs : List (Key × V)} {ds : List PyData} (h : Rd H a (.dK kvs)) (r : DpDs H (kvs.map (·.2)) ds) : DpD H (.ref a) (.dict ((kvs.map fun kv => keyPy kv.1).zip ds))
  | dT {a : Addr} {kvs : List (List Key × V)} {ds : List PyData} (h : Rd H a (.dT kvs)) (r : DpDs H (kvs.map (·.2)) ds) : DpD H (.ref a) (.dict ((kvs.map fun kv => PyData.tuple (kv.1.map keyPy)).zip ds))
inductive DpDs (H : Hp) : List V → List PyData → Prop where
  | nil : DpDs H [] []
  | cons {v : V} {d : PyData} {vs : List V} {ds : List PyData} (h : DpD H v d) (t : DpDs H vs ds) : DpDs H (v :: vs) (d :: ds)
end
theorem DpDs.length {H : Hp} : ∀ {vs : List V} {ds : List PyData}, DpDs H vs ds → vs.length = ds.length
  | _, _, .nil => rfl
  | _, _, .cons _ t => by rw [List.length_cons, List.length_cons, DpDs.length t]
section
variable {X : Cx} {pins : List (Addr × Obj)} {σ : L2.St} {H : Hp} {s : Shared}
theorem reads_keys {h : Heap} : ∀ {ks : List Key} {us : List Value}, Vals (ks.map kV) us → ReadsAll h us (ks.map keyPy) []
  | [], _, .nil => .nil
  | k :: ks, _, .cons r t => by
    have := reads_keys (h := h) t
    cases k with
    | inl i =>
      obtain ⟨t, rfl⟩ := (show ∃ t, _ = Value.int i t from r)
      exact ReadsAll.cons (.int i t) this
    | inr z =>
      obtain ⟨t, rfl⟩ := (show ∃ t, _ = Value.str z t from r)
      exact ReadsAll.cons (.str z t) this
theorem reads_pairs {P : Program} {w : World} {h : Heap} : ∀ {es : List DictEntry} {vs : List (Key × Value)}, Pairs (mixKind P w) es vs → ReadsAll h (es.map (·.key)) (vs.map fun q => keyPy q.1) [] ∧ es.map (·.val) = vs.map (·.2)
  | _, _, .nil => ⟨.nil, rfl⟩
  | _, _, .cons (e := e) (kv := kv) a b t => by
    obtain ⟨h1, h2⟩ := reads_pairs (h := h) t
    refine ⟨?_, by rw [List.map_cons, List.map_cons, h2, b]⟩
    rw [List.map_cons, List.map_cons]
    have a : keyIs kv.1 e.key = true := a
    rcases keyIs_shape a with ⟨i, t, ei, ek⟩ | ⟨y, t, ey, ek⟩
    · rw [ei, ek]
      exact ReadsAll.cons (.int i t) h1
    · rw [ey, ek]
      exact ReadsAll.cons (.str y t) h1
theorem reads_keysT (I : Inv X pins σ H s) : ∀ {kvs : List (List Key × V)} {xs : List (List Key × Addr × Value)}, KT H kvs xs → ReadsAll s.heap (xs.map fun x => Value.ref x.2.1) (kvs.map fun kv => PyData.tuple (kv.1.map keyPy)) []
  | _, _, .nil => .nil
  | p :: _, q :: _, .cons r t => by
    obtain ⟨e1, e2, _⟩ := r
    obtain ⟨_, its, rv, o, h1, h2, n, h3⟩ := (show ObjOk X.prog X.w H s.heap q.2.1 (.tup (p.1.map kV)) from I.hok _ _ e2)
    exact ReadsAll.cons (as := []) (bs := []) (Reads.tuple h1 h2 h3 (by simpa using reads_keys rv)) (reads_keysT I t)
theorem kv_vals : ∀ {kvs : List (Key × V)} {vs : List (Key × Value)}, KV kvs vs → Vals (kvs.map (·.2)) (vs.map (·.2)) := by
  intro kvs vs r
  unfold KV at r
  induction r with
  | nil => exact .nil
  | cons h t ih => exact .cons h.2 ih
theorem kt_vals : ∀ {kvs : List (List Key × V)} {xs : List (List Key × Addr × Value)}, KT H kvs xs → Vals (kvs.map (·.2)) (xs.map fun x => x.2.2)
  | _, _, .nil => .nil
  | _, _, .cons h t => .cons h.2.2 (kt_vals t)
theorem kv_keys {kvs : List (Key × V)} {vs : List (Key × Value)} (r : KV kvs vs) : (vs.map fun q => keyPy q.1) = kvs.map fun kv => keyPy kv.1 := by
  have := congrArg (List.map keyPy) r.keys
  rw [List.map_map, List.map_map] at this
  exact this.symm
theorem zip_fst {α β : Type} {xs : List α} {ys : List β} (l : xs.length = ys.length) : (xs.zip ys).map (·.1) = xs := List.map_fst_zip (by omega)
theorem zip_snd {α β : Type} {xs : List α} {ys : List β} (l : xs.length = ys.length) : (xs.zip ys).map (·.2) = ys := List.map_snd_zip (by omega)
mutual
theorem DpD.reads (I : Inv X pins σ H s) {v : V} {d : PyData} {u : Value} : DpD H v d → RelV v u → ∃ as, Reads s.heap u d as ∧ sysModules ∉ as
  | .non, r => by
    cases (show u = Value.none from r)
    exact ⟨_, .none, by simp⟩
  | .bl b, r => by
    cases (show u = Value.bool b from r)
    exact ⟨_, .bool b, by simp⟩
  | .int i, r => by
    obtain ⟨t, rfl⟩ := (show ∃ t, u = Value.int i t from r)
    exact ⟨_, .int i t, by simp⟩
  | .str x, r => by
    obtain ⟨t, rfl⟩ := (show ∃ t, u = Value.str x t from r)
    exact ⟨_, .str x t, by simp⟩
  | .tup (a := a) (vs := vs) h q, r => by
    cases (show u = Value.ref a from r)
    obtain ⟨_, its, rv, o, h1, h2, n, h3⟩ := (show ObjOk X.prog X.w H s.heap a (.tup vs) from I.hok _ _ h)
    obtain ⟨as, r1, r2⟩ := DpDs.reads I q rv
    exact ⟨as, Reads.tuple h1 h2 h3 (by simpa using r1), r2⟩
  | .dK (a := a) (kvs := kvs) (ds := ds) h q, r => by
    cases (show u = Value.ref a from r)
    obtain ⟨z, lo, vs, kv, o, es, ep, h1, h2, h3, h4, prs, nd⟩ := dk_rd I.hok h
    obtain ⟨p1, p2⟩ := reads_pairs (h := s.heap) prs
    have rv := kv_vals kv
    rw [← p2] at rv
    obtain ⟨as, r1, r2⟩ := DpDs.reads I q rv
    have l : (kvs.map fun kv => keyPy kv.1).length = ds.length := by rw [List.length_map, ← q.length, List.length_map]
    refine ⟨_, Reads.dict h1 h2.1 h3 (as := []) (bs := as) ?_ ?_, ?_⟩
    · rw [zip_fst l, ← kv_keys kv]
      exact p1
    · rw [zip_snd l]
      exact r1
    · simp only [List.nil_append, List.cons_append, List.mem_cons, not_or]
      exact ⟨fun e => by rw [← e] at lo; simp at lo, r2⟩
  | .dT (a := a) (kvs := kvs) (ds := ds) h q, r => by
    cases (show u = Value.ref a from r)
    obtain ⟨z, lo, xs, kt, o, es, ep, h1, h2, h3, h4, _, nd⟩ := dt_rd I.hok h
    have e1 : es.toList.map (·.key) = xs.map fun x => Value.ref x.2.1 := by rw [h4, List.map_map]; rfl
    have e2 : es.toList.map (·.val) = xs.map fun x => x.2.2 := by rw [h4, List.map_map]; rfl
    have rv := kt_vals kt
    rw [← e2] at rv
    obtain ⟨as, r1, r2⟩ := DpDs.reads I q rv
    have l : (kvs.map fun kv => PyData.tuple (kv.1.map keyPy)).length = ds.length := by rw [List.length_map, ← q.length, List.length_map]
    refine ⟨_, Reads.dict h1 h2.1 h3 (as := []) (bs := as) ?_ ?_, ?_⟩
    · rw [zip_fst l, e1]
      exact reads_keysT I kt
    · rw [zip_snd l]
      exact r1
    · simp only [List.nil_append, List.cons_append, List.mem_cons, not_or]
      exact ⟨fun e => by rw [← e] at lo; simp at lo, r2⟩
theorem DpDs.reads (I : Inv X pins σ H s) {vs : List V} {ds : List PyData} {us : List Value} : DpDs H vs ds → Vals vs us → ∃ as, ReadsAll s.heap us ds as ∧ sysModules ∉ as
  | .nil, .nil => ⟨[], .nil, by simp⟩
  | .cons h t, .cons r q => by
    obtain ⟨as, r1, r2⟩ := DpD.reads I h r
    obtain ⟨bs, r3, r4⟩ := DpDs.reads I t q
    exact ⟨as ++ bs, .cons r1 r3, fun z => (List.mem_append.mp z).elim r2 r4⟩
end
end
end LW
namespace PySem
open Sem (wp)
end PySem
namespace LW
open PySem PySem.Spec L2 PyProof.Rows
/-! ### the mirror -/
section
variable {mg : Glob} {N : Prot} {c : List Addr} {H : Hp} {st : Sto}
end
end LW

/-! LwJf: how mirrors with dicts of tuple keys run; repr of dicts and of great numbers. -/
namespace LW
open PySem L2 PySem.Spec PyProof.Rows
section
variable {env : Env} {st : Sto} {Q : D → Sto → Prop} {QL : List D → Sto → Prop} {QT : DKT → Sto → Prop} {QS : Out → Sto → Prop} {QI : Src → Sto → Prop} {i j l : Nat} {fa fb fe fk : SE} {f : Fx DKT} {fd : Fx DK}
theorem z_DT (h : Ok (f env st) fun d s => Q (.dit d.1 d.2) s) : Ok (eDT f env st) Q := by
  obtain ⟨d, s1, e1, h⟩ := h
  exact ⟨_, s1, by unfold eDT; rw [e1]; rfl, h⟩
theorem z_t0 (h : QT ([], []) st) : Ok (lT0 env st) QT := ⟨_, st, rfl, h⟩
theorem z_toT (h : Ok (fd env st) fun d s => d = ([], []) ∧ QT ([], []) s) : Ok (toT fd env st) QT := by
  obtain ⟨d, s1, e1, rfl, h⟩ := h
  exact ⟨_, s1, by unfold toT; rw [e1], h⟩
theorem z_Td (h : Ok (fk env st) fun y s1 => ∃ k, keysD y = some k ∧ Ok (fe env s1) fun d s2 => QT ([k], [d]) s2) : Ok (lTd fk fe env st) QT := by
  obtain ⟨y, s1, e1, k, e2, d, s2, e3, q⟩ := h
  exact ⟨_, s2, by unfold lTd; rw [e1]; dsimp only; rw [e2]; dsimp only; rw [e3], q⟩
theorem z_ownT (h : Ok (f env st) fun d s => QS (.nx (env.set i (.ownT d.1 d.2))) s) : Ok (sOwnT i f env st) QS := by
  obtain ⟨d, s1, e1, h⟩ := h
  exact ⟨_, s1, by unfold sOwnT; rw [e1], h⟩
theorem z_putT (h : Ok (fe env st) fun d s1 => Ok (fk env s1) fun y s2 => ∃ ks vs k, env[i]? = some (.ownT ks vs) ∧ keysD y = some k ∧ ks.length < 1000000 ∧ QS (.nx (env.set i (.ownT (putKDT (ks, vs) k d).1 (putKDT (ks, vs) k d).2))) s2) : Ok (sPutT i fk fe env st) QS := by
  obtain ⟨d, s1, e1, y, s2, e2, ks, vs, k, e3, e4, l, q⟩ := h
  exact ⟨_, s2, by unfold sPutT; rw [e1]; dsimp only; rw [e2]; dsimp only; rw [e3]; dsimp only; rw [e4]; dsimp only; rw [if_pos l], q⟩
theorem z_frzT {f : SS} (h : Ok (f (frzT i env) st) QS) : Ok (sFrzT i f env st) QS := h
theorem z_par3T (h : Ok (fa env st) fun x s1 => Ok (fb env s1) fun y s2 => Ok (f env s2) fun z s3 => QS (.nx (((env.set i (.val x)).set j (.val y)).set l (.ownT z.1 z.2))) s3) : Ok (sPar3T i j l fa fb f env st) QS := by
  obtain ⟨x, s1, e1, y, s2, e2, z, s3, e3, q⟩ := h
  exact ⟨_, s3, by unfold sPar3T; rw [e1]; dsimp only; rw [e2]; dsimp only; rw [e3], q⟩
end
/-! ### texts of dicts and of great numbers -/
section
variable {s : Sto} {Q : D → Prop} {d : D} {xs : List D} {ps : List PyData} {n : Nat}
end
end LW

/-! LwKa: texts: parts of texts, str(n), int(text), abs, join, startswith; defs as values. -/
namespace LW
open PySem L2 PyProof.Rows
/-! ### parts of texts -/
def slS : D → Option Int → Option Int → Sto → Option D := fun x lo hi _ => match x with
  | .str z => if z.length ≤ 1000000 then some (.str (cutS z lo hi)) else none
  | _ => none
section
variable {mg : Glob} {X : Cx} {e : Expr} {lo hi : Option Expr} {pos p2 : Pos} {f : SE} {gl gh : SO}
theorem ok_slS : SlOk mg (RE mg) rSlS slS := by
  intro N c H st u l h x d Q W p1 e k
  unfold slS at e
  split at e
  · rename_i z
    split at e
    · rename_i hl
      cases e
      exact ⟨z, p1.str, sz6 hl, k _ N c H Ex.refl W (.str _)⟩
    · cases e
  · cases e
theorem d_slS (he : PE X e (tP mg f)) (hl : PO X lo (tOX mg gl)) (hu : PO X hi (tOX mg gh)) : PE X (.Subscript e (.Slice lo hi none p2) pos) (tE mg (eSl slS f gl gh)) := pe_weak (pe_slice sl_str he hl hu) fun _ _ _ h => r_sl ok_slS back_E h
end
/-! ### str(n), int(text), abs(n) -/
def gStrI : List D → Sto → Option D := fun ds _ => match ds with
  | [.int i] => if i.natAbs.log2 < 1920 then some (.str (toString i)) else none
  | _ => none
def gIntS : List D → Sto → Option D := fun ds _ => match ds with
  | [.str a] => if a.length ≤ 640 then (match PySem.intText? a with
    | some n => some (.int n)
    | none => none) else none
  | _ => none
def gAbs : List D → Sto → Option D := fun ds _ => match ds with
  | [.int i] => some (.int (if i < 0 then -i else i))
  | _ => none
section
variable {mg : Glob} {X : Cx} {e : Expr} {es : List Expr} {p pos : Pos} {f : SA}
theorem ok_strI : BiOk mg (RE mg) (fun xs H Q => ∃ i : Int, xs = [.int i] ∧ i.natAbs.log2 < 1920 ∧ Q (.str (toString i)) H) gStrI := by
  intro N c H st us ds d Q W p q k
  unfold gStrI at q
  split at q
  · split at q
    · rename_i i hl
      cases q
      obtain ⟨u, rfl, h⟩ := tl1 p
      exact ⟨i, by rw [h.int], hl, k _ N c H Ex.refl W (.str _)⟩
    · cases q
  · cases q
theorem d_strI (hm : X.mg "str" = none) (ha : PA X (e :: es) (tAP mg f)) (hg : Gl X "str" := by rfl) (he : starEach (e :: es) X.env = (false, eval e X.env) :: starEach es X.env := by rfl) (hpl : (backTo pos (starEach es X.env)).any (·.1) = false := by rfl) : PE X (.Call (.Name "str" p) (e :: es) [] pos) (tE mg (eBi gStrI f)) :=
  d_bt call_str_int ok_strI back_E hg hm (by decide +kernel) ha (by decide) (by decide) he hpl
theorem ok_intS : BiOk mg (RE mg) (fun xs H Q => ∃ a n, xs = [.str a] ∧ PySem.intText? a = some n ∧ a.length ≤ 640 ∧ Q (.int n) H) gIntS := by
  intro N c H st us ds d Q W p q k
  unfold gIntS at q
  split at q
  · split at q
    · rename_i a hl
      split at q
      · rename_i n hn
        cases q
        obtain ⟨u, rfl, h⟩ := tl1 p
        exact ⟨a, n, by rw [h.str], hn, hl, k _ N c H Ex.refl W (.int _)⟩
      · cases q
    · cases q
  · cases q
theorem d_intS (hm : X.mg "int" = none) (ha : PA X (e :: es) (tAP mg f)) (hg : Gl X "int" := by rfl) (he : starEach (e :: es) X.env = (false, eval e X.env) :: starEach es X.env := by rfl) (hpl : (backTo pos (starEach es X.env)).any (·.1) = false := by rfl) : PE X (.Call (.Name "int" p) (e :: es) [] pos) (tE mg (eBi gIntS f)) :=
  d_bt call_int_str ok_intS back_E hg hm (by decide +kernel) ha (by decide) (by decide) he hpl
theorem ok_abs : BiOk mg (RE mg) (fun xs H Q => ∃ i : Int, xs = [.int i] ∧ Q (.int (if i < 0 then -i else i)) H) gAbs := by
  intro N c H st us ds d Q W p q k
  unfold gAbs at q
  split at q
  · cases q
    obtain ⟨u, rfl, h⟩ := tl1 p
    exact ⟨_, by rw [h.int], k _ N c H Ex.refl W (.int _)⟩
  · cases q
theorem d_abs (hm : X.mg "abs" = none) (ha : PA X (e :: es) (tAP mg f)) (hg : Gl X "abs" := by rfl) (he : starEach (e :: es) X.env = (false, eval e X.env) :: starEach es X.env := by rfl) (hpl : (backTo pos (starEach es X.env)).any (·.1) = false := by rfl) : PE X (.Call (.Name "abs" p) (e :: es) [] pos) (tE mg (eBi gAbs f)) :=
  d_bi call_abs ok_abs back_E hg hm (by decide +kernel) ha (by decide) (by decide) he hpl
end
/-! ### sep.join(xs), text.startswith(word, at) -/
def eJoin (fo fa : SE) : SE := fun env st => match fo env st with
  | some (.str a, s1) => (match fa env s1 with
    | some (x, s2) => (match lstS s2 x with
      | some ys => if (ys.map (·.length)).sum + ys.length * a.length ≤ 1000000 then some (.str (Txt.join a ys), s2) else none
      | none => none)
    | none => none)
  | _ => none
def eSw3 (fo : SE) (fs : SA) : SE := fun env st => match fo env st with
  | some (.str a, s1) => (match fs env s1 with
    | some ([.str b, .int i], s2) => some (.bl (Txt.startswith3 a b i), s2)
    | _ => none)
  | _ => none
section
variable {mg : Glob} {X : Cx} {o e : Expr} {es : List Expr} {apos pos : Pos} {fo fa : SE} {fs : SA}
theorem d_join (ho : PE X o (tP mg fo)) (he : PE X e (tP mg fa)) (hK : X.K = mg.K := by rfl) (hs : starEach [e] X.env = [(false, eval e X.env)] := by rfl) (hbase : attributeBase o "join" X.env (eval o X.env) = eval o X.env := by rfl) (hline : (apos.endLine == pos.line) = true := by rfl) :
    PE X (.Call (.Attribute o "join" apos) [e] [] pos) (tE mg (eJoin fo fa)) := pe_weak (pe_join ho he hs hbase hline) fun σ H Q ⟨E, N, c, env, st, d, st', R, q, k⟩ => by
  unfold eJoin at q
  split at q
  · rename_i a s1 q1
    split at q
    · rename_i x s2 q2
      split at q
      · rename_i ys hy
        split at q
        · rename_i hl
          cases q
          refine ⟨E, N, c, env, st, _, _, R, q1, fun v N1 c1 H1 x1 W1 r1 => ?_⟩
          refine ⟨⟨a, r1.str⟩, E, N1, c1, env, s1, x, _, R.ex x1 W1, q2, fun u N2 c2 H2 x2 W2 r2 => ?_⟩
          obtain ⟨l, rfl, hq⟩ := RepT.strs W2 r2 hy
          exact ⟨a, l, ys, r1.str, rfl, .inl (hK ▸ hq), by omega, k _ N2 c2 H2 (x1.trans x2 R.wd) W2 (.str _)⟩
        · cases q
      · cases q
    · cases q
  · cases q
theorem d_sw3 (ho : PE X o (tP mg fo)) (ha : PA X (e :: es) (tAP mg fs)) (hbase : attributeBase o "startswith" X.env (eval o X.env) = eval o X.env := by rfl)
    (hfew : ((backTo pos (starEach (e :: es) X.env)).all (fun x => !x.1) && (backToKw pos (keywordEach [] X.env)).all (fun x => x.1.isSome)
      && decide ((e :: es).length + ([] : List Keyword).length + (if ([] : List Keyword).isEmpty then 0 else 1) < 30)) = true := by rfl)
    (hline : (apos.endLine == pos.line) = true := by rfl) (hs : starEach (e :: es) X.env = (false, eval e X.env) :: starEach es X.env := by rfl) (hplain : (backTo pos (starEach es X.env)).any (·.1) = false := by rfl) :
    PE X (.Call (.Attribute o "startswith" apos) (e :: es) [] pos) (tE mg (eSw3 fo fs)) := pe_weak (pe_bm F.plainAttrs_str F.slot_str_startswith F.type_str_startswith mt_startswith3 ho ha hbase hfew hline hs hplain) fun σ H Q ⟨E, N, c, env, st, d, st', R, q, k⟩ => by
  unfold eSw3 at q
  split at q
  · rename_i a s1 q1
    split at q
    · rename_i b i s2 q2
      cases q
      refine ⟨E, N, c, env, st, _, _, R, q1, fun v N1 c1 H1 x1 W1 r1 => ?_⟩
      have ev := r1.str
      subst ev
      refine ⟨rfl, E, N1, c1, env, s1, _, _, R.ex x1 W1, q2, fun us N2 c2 H2 x2 W2 r2 => ?_⟩
      obtain ⟨u, u', rfl, h, h'⟩ := tl2 r2
      exact ⟨a, b, i, rfl, by rw [h.str, h'.int], k _ N2 c2 H2 (x1.trans x2 R.wd) W2 (.bl _)⟩
    · cases q
  · cases q
end
/-! ### defs as values -/
def eCallV (i : Nat) (nm : Str) (g : FM) (f : SA) : SE := fun env st => match env[i]? with
  | some (.val (.cls x)) => if x = nm then eCall g [] f env st else none
  | _ => none
section
variable {X : Cx} {k : Nat} {ps : List Str} {g : FM} {x y : Str} {p pos : Pos} {e : Expr} {es : List Expr} {fs : SA} {st : Stmt}
theorem d_fnv (F : FT X.K X.mg x st) (hg : Gl X x := by rfl) (hd : (x == ("__debug__" : Str)) = false := by decide) : PE X (.Name x pos) (tE ⟨X.mg, X.K⟩ (eC (.cls x))) := by
  obtain ⟨f, fd, hm, _⟩ := F
  exact d_cls hg hm hd
theorem c_callV {i : Nat} (h : OkF X.prog X.w X.K X.mg X.base k x ps g) (hr : Room k X.A) (ha : PA X (e :: es) (tA ⟨X.mg, X.K⟩ fs)) (hN : X.N[i]? = some y := by rfl) (hv : Vis X.env.scope y := by first | exact Or.inl rfl | exact Or.inr (Or.inl rfl) | exact Or.inr (Or.inr rfl))
    (hd : (y == ("__debug__" : Str)) = false := by decide) (hcd : (y == ("__classdict__" : Str)) = false := by decide)
    (he : starEach (e :: es) X.env = (false, eval e X.env) :: starEach es X.env := by rfl) (hpl : (backTo pos (starEach es X.env)).any (·.1) = false := by rfl) :
    PE X (.Call (.Name y p) (e :: es) [] pos) (tE ⟨X.mg, X.K⟩ (eCallV i x g fs)) := by
  obtain ⟨f, fd, hm, hk, Fn, hb, ar⟩ := h
  have c : C8.CalAt X.prog X.w X.K X.mg X.base k f (spM ⟨X.mg, X.K⟩ g ps.length) := ⟨fd, ps, Fn, hk, hb⟩
  refine pe_weak (C8.pe_cv c c hr (Nat.le_refl _) (Nat.le_refl _) hN hv ha hd hcd he hpl) fun σ H Q h => .inl ?_
  obtain ⟨E, N, cc, env, st, d, st', R, q, kk⟩ := h
  unfold eCallV at q
  split at q
  · rename_i nm hi
    split at q
    · rename_i en
      subst en
      obtain ⟨v, ev, rv⟩ := R.sl i _ hi
      have ev := join_some ev
      obtain ⟨C, rfl, hC⟩ : ∃ C, v = .ref C ∧ X.mg nm = some (.ref C) := by
        cases rv with
        | cls h => exact ⟨_, rfl, h⟩
      rw [hm] at hC
      cases hC
      refine ⟨ev, ?_⟩
      have z := r_call (dvs := []) (E := C8.E0) ar dfl_nil rfl (show tE ⟨X.mg, X.K⟩ (eCall g [] fs) σ H Q from ⟨E, N, cc, env, st, d, st', R, q, kk⟩)
      unfold tCall at z
      simpa using z
    · cases q
  · cases q
end
end LW

/-! LwKb: how mirrors with texts run. -/
namespace LW
open PySem L2 PyProof.Rows
section
variable {env : Env} {st : Sto} {Q : D → Sto → Prop} {fo fa : SE} {fs : SA} {g : FM} {i : Nat} {nm : Str}
theorem z_join (h : Ok (fo env st) fun d s1 => ∃ a, d = .str a ∧ Ok (fa env s1) fun x s2 => ∃ ys, lstS s2 x = some ys ∧ (ys.map (·.length)).sum + ys.length * a.length ≤ 1000000 ∧ Q (.str (Txt.join a ys)) s2) : Ok (eJoin fo fa env st) Q := by
  obtain ⟨d, s1, e1, a, rfl, x, s2, e2, ys, e3, l, q⟩ := h
  exact ⟨_, s2, by unfold eJoin; rw [e1]; dsimp only; rw [e2]; dsimp only; rw [e3]; dsimp only; rw [if_pos l], q⟩
theorem z_sw3 (h : Ok (fo env st) fun d s1 => ∃ a, d = .str a ∧ Ok (fs env s1) fun ds s2 => ∃ b i, ds = [.str b, .int i] ∧ Q (.bl (Txt.startswith3 a b i)) s2) : Ok (eSw3 fo fs env st) Q := by
  obtain ⟨d, s1, e1, a, rfl, ds, s2, e2, b, i, rfl, q⟩ := h
  exact ⟨_, s2, by unfold eSw3; rw [e1]; dsimp only; rw [e2], q⟩
theorem z_callV (e : env[i]? = some (.val (.cls nm))) (h : Ok (fs env st) fun ds s => Ok (g (ds ++ []) s) Q) : Ok (eCallV i nm g fs env st) Q := by
  obtain ⟨ds, s1, e1, d, s2, e2, q⟩ := h
  exact ⟨d, s2, by unfold eCallV; rw [e]; dsimp only; rw [if_pos rfl]; unfold eCall; rw [e1]; exact e2, q⟩
end
end LW

/-! The walk of law_k94_whole_texts_of_all_small_terms: printed by gen.py. -/
namespace K94
open PySem L2 LW PyProof.Rows
structure Txt0 (K : PySem.W.Frag) (mg : Str → Option Value) (C_Rule : Addr) : Prop where
  F_Rule___eq__ : MT K C_Rule "__eq__" "Rule.__eq__" s_Rule___eq__
  F_Rule___init__ : ∃ f fd, Mk K C_Rule f ∧ Fun K "__init__" "Rule.__init__" s_Rule___init__ f fd
  F_Rule_term : MT K C_Rule "term" "Rule.term" s_Rule_term
  F__law_draw : FT K mg "_law_draw" s__law_draw
  F__law_mixed : FT K mg "_law_mixed" s__law_mixed
  F__law_number_text : FT K mg "_law_number_text" s__law_number_text
  F__law_one_of : FT K mg "_law_one_of" s__law_one_of
  F__law_over : FT K mg "_law_over" s__law_over
  F__law_purse : FT K mg "_law_purse" s__law_purse
  F__law_purses : FT K mg "_law_purses" s__law_purses
  F__law_shuffled : FT K mg "_law_shuffled" s__law_shuffled
  F__law_term_text : FT K mg "_law_term_text" s__law_term_text
  F__law_terms : FT K mg "_law_terms" s__law_terms
  F__law_wait : FT K mg "_law_wait" s__law_wait
  F__law_word : FT K mg "_law_word" s__law_word
  F_are_terms : FT K mg "are_terms" s_are_terms
  F_check_rule : FT K mg "check_rule" s_check_rule
  F_copied : FT K mg "copied" s_copied
  F_is_name : FT K mg "is_name" s_is_name
  F_is_part : FT K mg "is_part" s_is_part
  F_is_term : FT K mg "is_term" s_is_term
  F_is_whole : FT K mg "is_whole" s_is_whole
  F_law : FT K mg "law" s_law
  F_named_at : FT K mg "named_at" s_named_at
  F_read_by : FT K mg "read_by" s_read_by
  F_read_rule : FT K mg "read_rule" s_read_rule
  F_rule_in : FT K mg "rule_in" s_rule_in
  F_rule_text : FT K mg "rule_text" s_rule_text
  F_term_at : FT K mg "term_at" s_term_at
  F_term_text : FT K mg "term_text" s_term_text
  F_terms_at : FT K mg "terms_at" s_terms_at
  F_whole_of : FT K mg "whole_of" s_whole_of
  F_with_inside : FT K mg "with_inside" s_with_inside
  a_Rule_form : NoAttr K C_Rule "form"
  c_Rule : mg "Rule" = some (.ref C_Rule)
  cx_LeafError : ∃ C, mg "LeafError" = some (.ref C)
  em : EM K mg []
  g_LETTERS : GS mg "LETTERS" "abcdefghijklmnopqrstuvwxyz"
  isi : Isi ⟨mg, K⟩ CS
  k_Rule : Cls K C_Rule
  n_abs : mg "abs" = none
  n_bool : mg "bool" = none
  n_dict : mg "dict" = none
  n_int : mg "int" = none
  n_isinstance : mg "isinstance" = none
  n_len : mg "len" = none
  n_list : mg "list" = none
  n_max : mg "max" = none
  n_min : mg "min" = none
  n_range : mg "range" = none
  n_repr : mg "repr" = none
  n_str : mg "str" = none
  n_sum : mg "sum" = none
  n_tuple : mg "tuple" = none
  ne_Rule : PySem.W.findIn K (.ref C_Rule) "__ne__" = some (some (.builtin "object.__ne__"))
  nf_Rule : NotF ⟨mg, K⟩ CS C_Rule
  ob_Rule : PySem.W.mroIn K C_Rule (.type "object") = some true
section
variable {P : Program} {w : World} {K : PySem.W.Frag} {mg : Str → Option Value} {base : Heap} {C_Rule : Addr}
theorem u0 {k : Nat} {A : Around} (r : Room k A) : A.units < cLine := by have := r.un; omega
theorem u1 {k : Nat} {A : Around} (r : Room k A) : A.units + 1 < cLine := by have := r.un; omega
theorem u80 {k : Nat} {A : Around} (r : Room k A) : A.units + 80 < cLine := by have := r.un; omega
/-! ### _law_purse -/
noncomputable def b__law_purse : SS := sSeq (sSet 2 (eBi gSum (aCons (eL (eSl slL (ePeek 0) (oSome (ePeek 1)) (oSome (eOp oAdd (ePeek 1) (eC (.int 1)))))) (aNil))))
  (sRetC (lDisp (aCons (eOp oMod (eBi gMax (aCons (eOp oSub (ePeek 2) (eOp oPow (eC (.int 10)) (eC (.int 18)))) (aCons (eC (.int 0)) (aNil)))) (eOp oPow (eOp oPow (eC (.int 10)) (eC (.int 60))) (eC (.int 8)))) (aCons (eOp oMod (ePeek 2) (eC (.int 2147483629))) (aCons (eC (.int 0)) (aCons (eVar 1) (aNil)))))))
noncomputable def m__law_purse : FM := fnM 2 3 b__law_purse
theorem sc__law_purse : FnScope ["_law_script", "_law_at", "_law_seed"] ["_law_script", "_law_at"] (defScope s__law_purse) := ⟨rfl, rfl, rfl, by decide +kernel, rfl, by decide +kernel, by decide +kernel⟩
theorem ok__law_purse (T : Txt0 K mg C_Rule) : OkF P w K mg base 1 "_law_purse" ["_law_script", "_law_at"] m__law_purse := by
  refine okF_mk (nm := ["_law_script", "_law_at", "_law_seed"]) T.F__law_purse sc__law_purse (fun _ _ _ _ _ _ us hl => match us, hl with | [_, _], _ => rfl) (fun f cdv A outer s H E hr => ?_)
  exact s_cons (s_set (i := 2) sc__law_purse.nd (d_sum rfl (T.n_sum) (p_cons (d_peek (d_give (d_slL (d_look 0) (o_some (d_look 1)) (o_some (d_peek (d_add (d_look 1) (d_peek (d_int)))))))) (p_nil))))
      (s_one (s_retC (d_lst (a_cons (d_mod (d_peek (d_max rfl (T.n_max) (p_cons (d_peek (d_sub (d_look 2) (d_peek (d_pow (d_peek (d_int)) (d_peek (d_int)))))) (p_cons (d_peek (d_int)) (p_nil))))) (d_peek (d_pow (d_peek (d_pow (d_peek (d_int)) (d_peek (d_int)))) (d_peek (d_int))))) (a_cons (d_mod (d_look 2) (d_peek (d_int))) (a_cons (d_int) (a_cons (d_var 1) (a_nil))))))))
/-! ### _law_purses -/
noncomputable def b__law_purses : SS := sRet (eL (lComp (iRg1 (aCons (eBi gMax (aCons (eC (.int 1)) (aCons (eBi gMin (aCons (ePeek 1) (aCons (eBi gLen (aCons (ePeek 0) (aNil))) (aNil)))) (aNil)))) (aNil))) (asgN 2) (bYes) (eCall m__law_purse [] (aCons (eVar 0) (aCons (eVar 2) (aNil)))) [2]))
noncomputable def m__law_purses : FM := fnM 2 3 b__law_purses
theorem sc__law_purses : FnScope ["_law_script", "_law_few", "_law_at"] ["_law_script", "_law_few"] (defScope s__law_purses) := ⟨rfl, rfl, rfl, by decide +kernel, rfl, by decide +kernel, by decide +kernel⟩
theorem ok__law_purses (T : Txt0 K mg C_Rule) : OkF P w K mg base 2 "_law_purses" ["_law_script", "_law_few"] m__law_purses := by
  refine okF_mk (nm := ["_law_script", "_law_few", "_law_at"]) T.F__law_purses sc__law_purses (fun _ _ _ _ _ _ us hl => match us, hl with | [_, _], _ => rfl) (fun f cdv A outer s H E hr => ?_)
  have hr1 : Room 1 _ := hr.mono (by decide)
  exact s_one (s_ret (d_give (d_lc rfl sc__law_purses.nd (i_rg1 (T.n_range) (p_cons (d_peek (d_max rfl (T.n_max) (p_cons (d_peek (d_int)) (p_cons (d_peek (d_min rfl (T.n_min) (p_cons (d_look 1) (p_cons (d_peek (d_len (T.n_len) (p_cons (d_look 0) (p_nil)))) (p_nil))))) (p_nil))))) (p_nil))) (blkOk_by (own := [("_law_at", 2)]) (by first | (show blkC ["_law_script", "_law_few", "_law_at"] (defScope s__law_purses) _ _ = true; decide +kernel) | kernel_rfl | rfl)) (fun _ _ _ _ _ => t_name (i := 2) sc__law_purses.nd) (gok_name 2) (by decide) (fun _ _ _ _ _ => pts_nilT) (fun _ _ _ _ _ => c_call (ok__law_purse T) hr1 (a_cons (d_var 0) (a_cons (d_var 2) (a_nil)))))))
/-! ### _law_mixed -/
noncomputable def b__law_mixed : SS := sSeq (sSet 3 (eOp oAdd (eOp oMul (ePeek 0) (eC (.int 69069))) (eOp oMul (eOp oMul (eC (.int 104729)) (ePeek 1)) (ePeek 1))))
  (sSeq (sSet 3 (eOp oMod (eOp oAdd (eOp oAdd (ePeek 3) (eOp oMul (eC (.int 7919)) (ePeek 2))) (ePeek 1)) (eC (.int 2147483647))))
  (sSeq (sSet 3 (eOp oMod (eOp oAdd (eOp oMul (ePeek 3) (ePeek 3)) (eC (.int 40503))) (eC (.int 2147483629))))
  (sRet (eOp oMod (eOp oMul (ePeek 3) (eC (.int 48271))) (eC (.int 2147483587))))))
noncomputable def m__law_mixed : FM := fnM 3 4 b__law_mixed
theorem sc__law_mixed : FnScope ["_law_seed", "_law_turn", "_law_at", "_law_mixed_here"] ["_law_seed", "_law_turn", "_law_at"] (defScope s__law_mixed) := ⟨rfl, rfl, rfl, by decide +kernel, rfl, by decide +kernel, by decide +kernel⟩
theorem ok__law_mixed (T : Txt0 K mg C_Rule) : OkF P w K mg base 1 "_law_mixed" ["_law_seed", "_law_turn", "_law_at"] m__law_mixed := by
  refine okF_mk (nm := ["_law_seed", "_law_turn", "_law_at", "_law_mixed_here"]) T.F__law_mixed sc__law_mixed (fun _ _ _ _ _ _ us hl => match us, hl with | [_, _, _], _ => rfl) (fun f cdv A outer s H E hr => ?_)
  exact s_cons (s_set (i := 3) sc__law_mixed.nd (d_add (d_peek (d_mul (d_look 0) (d_peek (d_int)))) (d_peek (d_mul (d_peek (d_mul (d_peek (d_int)) (d_look 1))) (d_look 1)))))
      (s_cons (s_set (i := 3) sc__law_mixed.nd (d_mod (d_peek (d_add (d_peek (d_add (d_look 3) (d_peek (d_mul (d_peek (d_int)) (d_look 2))))) (d_look 1))) (d_peek (d_int))))
      (s_cons (s_set (i := 3) sc__law_mixed.nd (d_mod (d_peek (d_add (d_peek (d_mul (d_look 3) (d_look 3))) (d_peek (d_int)))) (d_peek (d_int))))
      (s_one (s_ret (d_mod (d_peek (d_mul (d_look 3) (d_peek (d_int)))) (d_peek (d_int)))))))
/-! ### _law_draw -/
noncomputable def b__law_draw : SS := sSeq (sIf (bOf (eOp oGt (eOp oIx (ePeek 0) (eC (.int 0))) (eC (.int 0))))
  (sSeq (sSet 2 (eOp oMod (eOp oIx (ePeek 0) (eC (.int 0))) (ePeek 1)))
  (sSeq (sPutC (eVar 0) (eC (.int 0)) (eOp oDiv (eOp oIx (ePeek 0) (eC (.int 0))) (ePeek 1)))
  (sRet (eVar 2))))
  (sNil))
  (sSeq (sSet 3 (eC (.int 0)))
  (sSeq (sFor (iRg1 (aCons (eOp oAdd (eC (.int 1)) (eOp oDiv (eBits (ePeek 1)) (eC (.int 28)))) (aNil))) (asgN 4)
  (sSeq (sPutC (eVar 0) (eC (.int 2)) (eOp oAdd (eOp oIx (ePeek 0) (eC (.int 2))) (eC (.int 1))))
  (sSet 3 (eOp oAdd (eOp oMul (ePeek 3) (eC (.int 2147483587))) (eCall m__law_mixed [] (aCons (eOp oIx (ePeek 0) (eC (.int 1))) (aCons (eOp oIx (ePeek 0) (eC (.int 2))) (aCons (eOp oIx (ePeek 0) (eC (.int 3))) (aNil)))))))))
  (sRet (eOp oMod (ePeek 3) (ePeek 1)))))
noncomputable def m__law_draw : FM := fnM 2 5 b__law_draw
theorem sc__law_draw : FnScope ["_law_purse_here", "_law_many", "_law_drawn", "_law_found", "_law_piece"] ["_law_purse_here", "_law_many"] (defScope s__law_draw) := ⟨rfl, rfl, rfl, by decide +kernel, rfl, by decide +kernel, by decide +kernel⟩
theorem ok__law_draw (T : Txt0 K mg C_Rule) : OkF P w K mg base 2 "_law_draw" ["_law_purse_here", "_law_many"] m__law_draw := by
  refine okF_mk (nm := ["_law_purse_here", "_law_many", "_law_drawn", "_law_found", "_law_piece"]) T.F__law_draw sc__law_draw (fun _ _ _ _ _ _ us hl => match us, hl with | [_, _], _ => rfl) (fun f cdv A outer s H E hr => ?_)
  have hr1 : Room 1 _ := hr.mono (by decide)
  exact s_cons (s_if (d_testC (d_peek (d_gt (d_peek (d_ix (d_look 0) (d_peek (d_int)))) (d_peek (d_int)))))
      (s_cons (s_set (i := 2) sc__law_draw.nd (d_mod (d_peek (d_ix (d_look 0) (d_peek (d_int)))) (d_look 1)))
      (s_cons (s_putC (d_div (d_peek (d_ix (d_look 0) (d_peek (d_int)))) (d_look 1)) (d_var 0) (d_peek (d_int)) (fun _ => rfl))
      (s_one (s_ret (d_var 2)))))
      (s_nil))
      (s_cons (s_set (i := 3) sc__law_draw.nd (d_int))
      (s_cons (s_for PassesOwn.never rfl (i_rg1 (T.n_range) (p_cons (d_peek (d_add (d_peek (d_int)) (d_peek (d_div (d_peek (d_bits (d_look 1))) (d_peek (d_int)))))) (p_nil))) (t_name (i := 4) sc__law_draw.nd) (gok_name 4)
      (s_cons (s_putC (d_add (d_peek (d_ix (d_look 0) (d_peek (d_int)))) (d_peek (d_int))) (d_var 0) (d_peek (d_int)) (fun _ => rfl))
      (s_one (s_set (i := 3) sc__law_draw.nd (d_add (d_peek (d_mul (d_look 3) (d_peek (d_int)))) (d_peek (c_call (ok__law_mixed T) hr1 (a_cons (d_ix (d_look 0) (d_peek (d_int))) (a_cons (d_ix (d_look 0) (d_peek (d_int))) (a_cons (d_ix (d_look 0) (d_peek (d_int))) (a_nil)))))))))))
      (s_one (s_ret (d_mod (d_look 3) (d_look 1))))))
/-! ### _law_shuffled -/
noncomputable def b__law_shuffled : SS := sSeq (sOwn 2 (lDisp (aNil)))
  (sSeq (sFor (iSeq (eVar 1)) (asgN 3)
  (sIns 2 (eCall m__law_draw [] (aCons (eVar 0) (aCons (eOp oAdd (eBi gLen (aCons (ePeek 2) (aNil))) (eC (.int 1))) (aNil)))) (eVar 3)))
  (sFrz 2 (sRet (eVar 2))))
noncomputable def m__law_shuffled : FM := fnM 2 4 b__law_shuffled
theorem sc__law_shuffled : FnScope ["_law_purse_here", "_law_some", "_law_found", "_law_item"] ["_law_purse_here", "_law_some"] (defScope s__law_shuffled) := ⟨rfl, rfl, rfl, by decide +kernel, rfl, by decide +kernel, by decide +kernel⟩
theorem ok__law_shuffled (T : Txt0 K mg C_Rule) : OkF P w K mg base 3 "_law_shuffled" ["_law_purse_here", "_law_some"] m__law_shuffled := by
  refine okF_mk (nm := ["_law_purse_here", "_law_some", "_law_found", "_law_item"]) T.F__law_shuffled sc__law_shuffled (fun _ _ _ _ _ _ us hl => match us, hl with | [_, _], _ => rfl) (fun f cdv A outer s H E hr => ?_)
  have hr2 : Room 2 _ := hr.mono (by decide)
  exact s_cons (s_own (i := 2) sc__law_shuffled.nd (d_lst (a_nil)))
      (s_cons (s_for PassesOwn.never rfl (i_seq (d_var 1)) (t_name (i := 3) sc__law_shuffled.nd) (gok_name 3)
      (s_one (s_ins (i := 2) (d_peek (c_call (ok__law_draw T) hr2 (a_cons (d_var 0) (a_cons (d_add (d_peek (d_len (T.n_len) (p_cons (d_look 2) (p_nil)))) (d_peek (d_int))) (a_nil))))) (d_var 3))))
      (s_one (s_frz 2 (s_ret (d_var 2)))))
/-! ### _law_word -/
noncomputable def b__law_word : SS := sSeq (sSet 1 (eC (.str "")))
  (sSeq (sFor (iRg1 (aCons (eOp oAdd (eC (.int 1)) (eCall m__law_draw [] (aCons (eVar 0) (aCons (eC (.int 8)) (aNil))))) (aNil))) (asgN 2)
  (sSet 1 (eOp oAdd (ePeek 1) (eOp oIx (eC (.str "abcdefghijklmnopqrstuvwxyz")) (eCall m__law_draw [] (aCons (eVar 0) (aCons (eC (.int 26)) (aNil))))))))
  (sRet (eVar 1)))
noncomputable def m__law_word : FM := fnM 1 3 b__law_word
theorem sc__law_word : FnScope ["_law_purse_here", "_law_found", "_law_turn"] ["_law_purse_here"] (defScope s__law_word) := ⟨rfl, rfl, rfl, by decide +kernel, rfl, by decide +kernel, by decide +kernel⟩
theorem ok__law_word (T : Txt0 K mg C_Rule) : OkF P w K mg base 3 "_law_word" ["_law_purse_here"] m__law_word := by
  refine okF_mk (nm := ["_law_purse_here", "_law_found", "_law_turn"]) T.F__law_word sc__law_word (fun _ _ _ _ _ _ us hl => match us, hl with | [_], _ => rfl) (fun f cdv A outer s H E hr => ?_)
  have hr2 : Room 2 _ := hr.mono (by decide)
  exact s_cons (s_set (i := 1) sc__law_word.nd (d_str))
      (s_cons (s_for PassesOwn.never rfl (i_rg1 (T.n_range) (p_cons (d_peek (d_add (d_peek (d_int)) (d_peek (c_call (ok__law_draw T) hr2 (a_cons (d_var 0) (a_cons (d_int) (a_nil))))))) (p_nil))) (t_name (i := 2) sc__law_word.nd) (gok_name 2)
      (s_one (s_set (i := 1) sc__law_word.nd (d_add (d_look 1) (d_peek (d_ix (d_peek (d_str)) (d_peek (c_call (ok__law_draw T) hr2 (a_cons (d_var 0) (a_cons (d_int) (a_nil)))))))))))
      (s_one (s_ret (d_var 1))))
/-! ### _law_one_of -/
noncomputable def b__law_one_of : SS := sRet (eOp oIx (ePeek 1) (eCall m__law_draw [] (aCons (eVar 0) (aCons (eBi gLen (aCons (ePeek 1) (aNil))) (aNil)))))
noncomputable def m__law_one_of : FM := fnM 2 2 b__law_one_of
theorem sc__law_one_of : FnScope ["_law_purse_here", "_law_some"] ["_law_purse_here", "_law_some"] (defScope s__law_one_of) := ⟨rfl, rfl, rfl, by decide +kernel, rfl, by decide +kernel, by decide +kernel⟩
theorem ok__law_one_of (T : Txt0 K mg C_Rule) : OkF P w K mg base 3 "_law_one_of" ["_law_purse_here", "_law_some"] m__law_one_of := by
  refine okF_mk (nm := ["_law_purse_here", "_law_some"]) T.F__law_one_of sc__law_one_of (fun _ _ _ _ _ _ us hl => match us, hl with | [_, _], _ => rfl) (fun f cdv A outer s H E hr => ?_)
  have hr2 : Room 2 _ := hr.mono (by decide)
  exact s_one (s_ret (d_ix (d_look 1) (d_peek (c_call (ok__law_draw T) hr2 (a_cons (d_var 0) (a_cons (d_len (T.n_len) (p_cons (d_look 1) (p_nil))) (a_nil)))))))
/-! ### _law_wait -/
noncomputable def b__law_wait : SS := sSeq (sSet 1 (eL (lDisp (aCons (eC (.int 0)) (aCons (eC (.int 0)) (aCons (eC (.int 1)) (aCons (eC (.int 2)) (aCons (eC (.int 3)) (aCons (eNeg (eC (.int 1))) (aCons (eNeg (eC (.int 2))) (aCons (eOp oSub (eCall m__law_draw [] (aCons (eVar 0) (aCons (eC (.int 19)) (aNil)))) (eC (.int 9))) (aNil))))))))))))
  (sSeq (sSet 1 (eOp oAdd (ePeek 1) (eL (lDisp (aCons (eOp oSub (eCall m__law_draw [] (aCons (eVar 0) (aCons (eOp oPow (eC (.int 10)) (eC (.int 9))) (aNil)))) (eOp oPow (eC (.int 10)) (eC (.int 8)))) (aCons (eOp oAdd (eOp oPow (eC (.int 10)) (eC (.int 11))) (eCall m__law_draw [] (aCons (eVar 0) (aCons (eC (.int 9)) (aNil))))) (aNil)))))))
  (sRet (eCall m__law_one_of [] (aCons (eVar 0) (aCons (eL (eSl slL (ePeek 1) (oNone) (oSome (eOp oAdd (eC (.int 7)) (eCall m__law_draw [] (aCons (eVar 0) (aCons (eC (.int 4)) (aNil)))))))) (aNil))))))
noncomputable def m__law_wait : FM := fnM 1 2 b__law_wait
theorem sc__law_wait : FnScope ["_law_purse_here", "_law_some"] ["_law_purse_here"] (defScope s__law_wait) := ⟨rfl, rfl, rfl, by decide +kernel, rfl, by decide +kernel, by decide +kernel⟩
theorem ok__law_wait (T : Txt0 K mg C_Rule) : OkF P w K mg base 4 "_law_wait" ["_law_purse_here"] m__law_wait := by
  refine okF_mk (nm := ["_law_purse_here", "_law_some"]) T.F__law_wait sc__law_wait (fun _ _ _ _ _ _ us hl => match us, hl with | [_], _ => rfl) (fun f cdv A outer s H E hr => ?_)
  have hr2 : Room 2 _ := hr.mono (by decide)
  have hr3 : Room 3 _ := hr.mono (by decide)
  exact s_cons (s_set (i := 1) sc__law_wait.nd (d_give (d_lst (a_cons (d_int) (a_cons (d_int) (a_cons (d_int) (a_cons (d_int) (a_cons (d_int) (a_cons (d_neg (d_peek (d_int))) (a_cons (d_neg (d_peek (d_int))) (a_cons (d_sub (d_peek (c_call (ok__law_draw T) hr2 (a_cons (d_var 0) (a_cons (d_int) (a_nil))))) (d_peek (d_int))) (a_nil))))))))))))
      (s_cons (s_set (i := 1) sc__law_wait.nd (d_add (d_look 1) (d_peek (d_give (d_lst (a_cons (d_sub (d_peek (c_call (ok__law_draw T) hr2 (a_cons (d_var 0) (a_cons (d_pow (d_peek (d_int)) (d_peek (d_int))) (a_nil))))) (d_peek (d_pow (d_peek (d_int)) (d_peek (d_int))))) (a_cons (d_add (d_peek (d_pow (d_peek (d_int)) (d_peek (d_int)))) (d_peek (c_call (ok__law_draw T) hr2 (a_cons (d_var 0) (a_cons (d_int) (a_nil)))))) (a_nil))))))))
      (s_one (s_ret (c_call (ok__law_one_of T) hr3 (a_cons (d_var 0) (a_cons (d_give (d_slL (d_look 1) (o_none) (o_some (d_peek (d_add (d_peek (d_int)) (d_peek (c_call (ok__law_draw T) hr2 (a_cons (d_var 0) (a_cons (d_int) (a_nil)))))))))) (a_nil)))))))
/-! ### _law_over -/
noncomputable def b__law_over : SS := sSeq (sSet 1 (eL (lDisp (aCons (eTup (aCons (eC (.str "first")) (aCons (eVar 0) (aNil)))) (aCons (eTup (aCons (eC (.str "last")) (aCons (eVar 0) (aNil)))) (aNil))))))
  (sRet (eOp oAdd (ePeek 1) (eL (lComp (iRg1 (aCons (eBi gLen (aCons (ePeek 0) (aNil))) (aNil))) (asgN 2) (bYes) (eTup (aCons (eC (.str "rank")) (aCons (eOp oAdd (ePeek 2) (eC (.int 1))) (aCons (eVar 0) (aNil))))) [2]))))
noncomputable def m__law_over : FM := fnM 1 3 b__law_over
theorem sc__law_over : FnScope ["_law_inner", "_law_found", "_law_at"] ["_law_inner"] (defScope s__law_over) := ⟨rfl, rfl, rfl, by decide +kernel, rfl, by decide +kernel, by decide +kernel⟩
theorem ok__law_over (T : Txt0 K mg C_Rule) : OkF P w K mg base 1 "_law_over" ["_law_inner"] m__law_over := by
  refine okF_mk (nm := ["_law_inner", "_law_found", "_law_at"]) T.F__law_over sc__law_over (fun _ _ _ _ _ _ us hl => match us, hl with | [_], _ => rfl) (fun f cdv A outer s H E hr => ?_)
  exact s_cons (s_set (i := 1) sc__law_over.nd (d_give (d_lst (a_cons (d_tup (a_cons (d_str) (a_cons (d_var 0) (a_nil)))) (a_cons (d_tup (a_cons (d_str) (a_cons (d_var 0) (a_nil)))) (a_nil))))))
      (s_one (s_ret (d_add (d_look 1) (d_peek (d_give (d_lc rfl sc__law_over.nd (i_rg1 (T.n_range) (p_cons (d_peek (d_len (T.n_len) (p_cons (d_look 0) (p_nil)))) (p_nil))) (blkOk_by (own := [("_law_at", 2)]) (by first | (show blkC ["_law_inner", "_law_found", "_law_at"] (defScope s__law_over) _ _ = true; decide +kernel) | kernel_rfl | rfl)) (fun _ _ _ _ _ => t_name (i := 2) sc__law_over.nd) (gok_name 2) (by decide) (fun _ _ _ _ _ => pts_nilT) (fun _ _ _ _ _ => d_tup (a_cons (d_str) (a_cons (d_add (d_look 2) (d_peek (d_int))) (a_cons (d_var 0) (a_nil)))))))))))
/-! ### _law_terms -/
noncomputable def b__law_terms : SS := sSeq (sPar 1 2 (.val (eL (eSl slL (eCall m__law_shuffled [] (aCons (eVar 0) (aCons (eL (lDisp (aCons (eC (.str "now")) (aCons (eC (.str "rank")) (aCons (eC (.str "first")) (aCons (eC (.str "a")) (aCons (eCall m__law_word [] (aCons (eVar 0) (aNil))) (aNil)))))))) (aNil)))) (oNone) (oSome (eC (.int 2)))))) (.val (eL (lDisp (aCons (eC (.int 0)) (aCons (eCall m__law_wait [] (aCons (eVar 0) (aNil))) (aNil)))))))
  (sSeq (sSet 3 (eL (lDisp (aNil))))
  (sSeq (sFor (iSeq (eTup (aCons (eC (.str "of")) (aCons (eC (.str "now")) (aNil))))) (asgN 4)
  (sFor (iSeq (eVar 1)) (asgN 5)
  (sSet 3 (eOp oAdd (ePeek 3) (eL (lComp (iSeq (eVar 2)) (asgN 6) (bYes) (eTup (aCons (eVar 4) (aCons (eVar 5) (aCons (eVar 6) (aNil))))) [6]))))))
  (sSeq (sSet 7 (eL (eBi gList (aCons (ePeek 3) (aNil)))))
  (sSeq (sFor (iSeq (eVar 3)) (asgN 8)
  (sSet 7 (eOp oAdd (ePeek 7) (eCall m__law_over [] (aCons (eL (lDisp (aCons (eVar 8) (aNil)))) (aNil))))))
  (sSeq (sFor (iSeq (eL (eSl slL (ePeek 3) (oNone) (oSome (eC (.int 3)))))) (asgN 8)
  (sFor (iSeq (eL (eSl slL (ePeek 3) (oSome (eC (.int 2))) (oSome (eC (.int 5)))))) (asgN 9)
  (sSet 7 (eOp oAdd (ePeek 7) (eCall m__law_over [] (aCons (eL (lDisp (aCons (eVar 8) (aCons (eVar 9) (aNil))))) (aNil)))))))
  (sSeq (sFor (iSeq (eCall m__law_over [] (aCons (eL (lDisp (aCons (eOp oIx (ePeek 3) (eC (.int 0))) (aCons (eOp oIx (ePeek 3) (eC (.int 1))) (aNil))))) (aNil)))) (asgN 10)
  (sSet 7 (eOp oAdd (eOp oAdd (eOp oAdd (ePeek 7) (eCall m__law_over [] (aCons (eL (lDisp (aCons (eVar 10) (aNil)))) (aNil)))) (eCall m__law_over [] (aCons (eL (lDisp (aCons (eVar 10) (aCons (eOp oIx (ePeek 3) (eNeg (eC (.int 1)))) (aNil))))) (aNil)))) (eCall m__law_over [] (aCons (eL (lDisp (aCons (eOp oIx (ePeek 3) (eNeg (eC (.int 1)))) (aCons (eVar 10) (aNil))))) (aNil))))))
  (sRet (eVar 7))))))))
noncomputable def m__law_terms : FM := fnM 1 11 b__law_terms
theorem sc__law_terms : FnScope ["_law_purse_here", "_law_names", "_law_waits", "_law_parts_here", "_law_kind", "_law_name", "_law_wait_here", "_law_found", "_law_one", "_law_other", "_law_inner"] ["_law_purse_here"] (defScope s__law_terms) := ⟨rfl, rfl, rfl, by decide +kernel, rfl, by decide +kernel, by decide +kernel⟩
theorem ok__law_terms (T : Txt0 K mg C_Rule) : OkF P w K mg base 5 "_law_terms" ["_law_purse_here"] m__law_terms := by
  refine okF_mk (nm := ["_law_purse_here", "_law_names", "_law_waits", "_law_parts_here", "_law_kind", "_law_name", "_law_wait_here", "_law_found", "_law_one", "_law_other", "_law_inner"]) T.F__law_terms sc__law_terms (fun _ _ _ _ _ _ us hl => match us, hl with | [_], _ => rfl) (fun f cdv A outer s H E hr => ?_)
  have hr1 : Room 1 _ := hr.mono (by decide)
  have hr3 : Room 3 _ := hr.mono (by decide)
  have hr4 : Room 4 _ := hr.mono (by decide)
  exact s_cons (s_par (i := 1) (j := 2) (ka := .val (eL (eSl slL (eCall m__law_shuffled [] (aCons (eVar 0) (aCons (eL (lDisp (aCons (eC (.str "now")) (aCons (eC (.str "rank")) (aCons (eC (.str "first")) (aCons (eC (.str "a")) (aCons (eCall m__law_word [] (aCons (eVar 0) (aNil))) (aNil)))))))) (aNil)))) (oNone) (oSome (eC (.int 2)))))) (kb := .val (eL (lDisp (aCons (eC (.int 0)) (aCons (eCall m__law_wait [] (aCons (eVar 0) (aNil))) (aNil)))))) sc__law_terms.nd (k_val (d_give (d_slL (d_peek (c_call (ok__law_shuffled T) hr3 (a_cons (d_var 0) (a_cons (d_give (d_lst (a_cons (d_str) (a_cons (d_str) (a_cons (d_str) (a_cons (d_str) (a_cons (c_call (ok__law_word T) hr3 (a_cons (d_var 0) (a_nil))) (a_nil)))))))) (a_nil))))) (o_none) (o_some (d_peek (d_int)))))) (k_val (d_give (d_lst (a_cons (d_int) (a_cons (c_call (ok__law_wait T) hr4 (a_cons (d_var 0) (a_nil))) (a_nil)))))))
      (s_cons (s_set (i := 3) sc__law_terms.nd (d_give (d_lst (a_nil))))
      (s_cons (s_for PassesOwn.never rfl (i_seq (d_tup (a_cons (d_str) (a_cons (d_str) (a_nil))))) (t_name (i := 4) sc__law_terms.nd) (gok_name 4)
      (s_one (s_for PassesOwn.never rfl (i_seq (d_var 1)) (t_name (i := 5) sc__law_terms.nd) (gok_name 5)
      (s_one (s_set (i := 3) sc__law_terms.nd (d_add (d_look 3) (d_peek (d_give (d_lc rfl sc__law_terms.nd (i_seq (d_var 2)) (blkOk_by (own := [("_law_wait_here", 6)]) (by first | (show blkC ["_law_purse_here", "_law_names", "_law_waits", "_law_parts_here", "_law_kind", "_law_name", "_law_wait_here", "_law_found", "_law_one", "_law_other", "_law_inner"] (defScope s__law_terms) _ _ = true; decide +kernel) | kernel_rfl | rfl)) (fun _ _ _ _ _ => t_name (i := 6) sc__law_terms.nd) (gok_name 6) (by decide) (fun _ _ _ _ _ => pts_nilT) (fun _ _ _ _ _ => d_tup (a_cons (d_var 4) (a_cons (d_var 5) (a_cons (d_var 6) (a_nil))))))))))))))
      (s_cons (s_set (i := 7) sc__law_terms.nd (d_give (d_list (T.n_list) (p_cons (d_look 3) (p_nil)))))
      (s_cons (s_for PassesOwn.never rfl (i_seq (d_var 3)) (t_name (i := 8) sc__law_terms.nd) (gok_name 8)
      (s_one (s_set (i := 7) sc__law_terms.nd (d_add (d_look 7) (d_peek (c_call (ok__law_over T) hr1 (a_cons (d_give (d_lst (a_cons (d_var 8) (a_nil)))) (a_nil))))))))
      (s_cons (s_for PassesOwn.never rfl (i_seq (d_give (d_slL (d_look 3) (o_none) (o_some (d_peek (d_int)))))) (t_name (i := 8) sc__law_terms.nd) (gok_name 8)
      (s_one (s_for PassesOwn.never rfl (i_seq (d_give (d_slL (d_look 3) (o_some (d_peek (d_int))) (o_some (d_peek (d_int)))))) (t_name (i := 9) sc__law_terms.nd) (gok_name 9)
      (s_one (s_set (i := 7) sc__law_terms.nd (d_add (d_look 7) (d_peek (c_call (ok__law_over T) hr1 (a_cons (d_give (d_lst (a_cons (d_var 8) (a_cons (d_var 9) (a_nil))))) (a_nil))))))))))
      (s_cons (s_for PassesOwn.never rfl (i_seq (c_call (ok__law_over T) hr1 (a_cons (d_give (d_lst (a_cons (d_ix (d_look 3) (d_peek (d_int))) (a_cons (d_ix (d_look 3) (d_peek (d_int))) (a_nil))))) (a_nil)))) (t_name (i := 10) sc__law_terms.nd) (gok_name 10)
      (s_one (s_set (i := 7) sc__law_terms.nd (d_add (d_peek (d_add (d_peek (d_add (d_look 7) (d_peek (c_call (ok__law_over T) hr1 (a_cons (d_give (d_lst (a_cons (d_var 10) (a_nil)))) (a_nil)))))) (d_peek (c_call (ok__law_over T) hr1 (a_cons (d_give (d_lst (a_cons (d_var 10) (a_cons (d_ix (d_look 3) (d_peek (d_neg (d_peek (d_int))))) (a_nil))))) (a_nil)))))) (d_peek (c_call (ok__law_over T) hr1 (a_cons (d_give (d_lst (a_cons (d_ix (d_look 3) (d_peek (d_neg (d_peek (d_int))))) (a_cons (d_var 10) (a_nil))))) (a_nil))))))))
      (s_one (s_ret (d_var 7)))))))))
/-! ### check_rule -/
noncomputable def b_check_rule : SS := sIf (bNot (bOf (eBi (gIsi CS) (aCons (ePeek 0) (aCons (eC (.cls "Rule")) (aNil))))))
  (sNever)
  (sNil)
noncomputable def m_check_rule : FM := fnM 1 1 b_check_rule
theorem sc_check_rule : FnScope ["value"] ["value"] (defScope s_check_rule) := ⟨rfl, rfl, rfl, by decide +kernel, rfl, by decide +kernel, by decide +kernel⟩
theorem ok_check_rule (T : Txt0 K mg C_Rule) : OkF P w K mg base 1 "check_rule" ["value"] m_check_rule := by
  refine okF_mk (nm := ["value"]) T.F_check_rule sc_check_rule (fun _ _ _ _ _ _ us hl => match us, hl with | [_], _ => rfl) (fun f cdv A outer s H E hr => ?_)
  exact s_one (s_if (d_not (d_test (d_peek (d_isi T.isi (T.n_isinstance) (p_cons (d_look 0) (p_cons (d_peek (d_cls (by rfl) T.c_Rule)) (p_nil)))))))
      (s_one (s_never))
      (s_nil))
/-! ### term_text (recursion) -/
noncomputable def b_term_text (r_term_text : FM) : SS := sSeq (sIf (bOf (eOp oEq (eOp oIx (ePeek 0) (eC (.int 0))) (eC (.str "of"))))
  (sRet (eOp oAdd (eOp oAdd (eOp oIx (ePeek 0) (eC (.int 1))) (eC (.str " "))) (eBi gStrI (aCons (eOp oIx (ePeek 0) (eC (.int 2))) (aNil)))))
  (sNil))
  (sSeq (sIf (bOf (eOp oEq (eOp oIx (ePeek 0) (eC (.int 0))) (eC (.str "now"))))
  (sRet (eOp oAdd (eOp oAdd (eOp oAdd (eC (.str "now ")) (eOp oIx (ePeek 0) (eC (.int 1)))) (eC (.str " "))) (eBi gStrI (aCons (eOp oIx (ePeek 0) (eC (.int 2))) (aNil)))))
  (sNil))
  (sSeq (sSet 1 (eIf (bOf (eOp oEq (eOp oIx (ePeek 0) (eC (.int 0))) (eC (.str "rank")))) (eOp oAdd (eC (.str "rank ")) (eBi gStrI (aCons (eOp oIx (ePeek 0) (eC (.int 1))) (aNil)))) (eOp oIx (ePeek 0) (eC (.int 0)))))
  (sRet (eOp oAdd (eOp oAdd (eOp oAdd (ePeek 1) (eC (.str "("))) (eJoin (eC (.str ", ")) (eL (lComp (iSeq (eOp oIx (ePeek 0) (eNeg (eC (.int 1))))) (asgN 2) (bYes) (eCall r_term_text [] (aCons (eVar 2) (aNil))) [2])))) (eC (.str ")"))))))
noncomputable def st_term_text (p : FM) : FM := (fnM 1 3 (b_term_text (p)))
noncomputable def mm_term_text : Nat → FM
  | 0 => (fun _ _ => none)
  | n + 1 => st_term_text (mm_term_text n)
noncomputable abbrev mr_term_text (n : Nat) : FM := (mm_term_text n)
noncomputable abbrev m_term_text : FM := mr_term_text 11
theorem sr_term_text (n : Nat) : mr_term_text (n + 1) = fnM 1 3 (b_term_text (mr_term_text n)) := rfl
theorem sc_term_text : FnScope ["term", "word", "inner"] ["term"] (defScope s_term_text) := ⟨rfl, rfl, rfl, by decide +kernel, rfl, by decide +kernel, by decide +kernel⟩
theorem okr_term_text (T : Txt0 K mg C_Rule) : ∀ n : Nat, OkF P w K mg base (1 + n) "term_text" ["term"] (mr_term_text n)
  | 0 => okF_0 T.F_term_text (fun _ _ _ _ _ _ us hl => match us, hl with | [_], _ => rfl)
  | n + 1 => by
    have ih_term_text := okr_term_text T n
    refine okF_mk (k := 1 + n) (nm := ["term", "word", "inner"]) T.F_term_text sc_term_text (fun _ _ _ _ _ _ us hl => match us, hl with | [_], _ => rfl) (fun f cdv A outer s H E hr => ?_)
    exact s_cons (s_if (d_testC (d_peek (d_eq hr.units (d_peek (d_ix (d_look 0) (d_peek (d_int)))) (d_peek (d_str)))))
            (s_one (s_ret (d_add (d_peek (d_add (d_peek (d_ix (d_look 0) (d_peek (d_int)))) (d_peek (d_str)))) (d_peek (d_strI T.n_str (p_cons (d_peek (d_ix (d_look 0) (d_peek (d_int)))) (p_nil)))))))
            (s_nil))
            (s_cons (s_if (d_testC (d_peek (d_eq hr.units (d_peek (d_ix (d_look 0) (d_peek (d_int)))) (d_peek (d_str)))))
            (s_one (s_ret (d_add (d_peek (d_add (d_peek (d_add (d_peek (d_str)) (d_peek (d_ix (d_look 0) (d_peek (d_int)))))) (d_peek (d_str)))) (d_peek (d_strI T.n_str (p_cons (d_peek (d_ix (d_look 0) (d_peek (d_int)))) (p_nil)))))))
            (s_nil))
            (s_cons (s_set (i := 1) sc_term_text.nd (d_if (d_testC (d_peek (d_eq hr.units (d_peek (d_ix (d_look 0) (d_peek (d_int)))) (d_peek (d_str))))) (d_add (d_peek (d_str)) (d_peek (d_strI T.n_str (p_cons (d_peek (d_ix (d_look 0) (d_peek (d_int)))) (p_nil))))) (d_ix (d_look 0) (d_peek (d_int)))))
            (s_one (s_ret (d_add (d_peek (d_add (d_peek (d_add (d_look 1) (d_peek (d_str)))) (d_peek (d_join (d_peek (d_str)) (d_peek (d_give (d_lc rfl sc_term_text.nd (i_seq (d_ix (d_look 0) (d_peek (d_neg (d_peek (d_int)))))) (blkOk_by (own := [("inner", 2)]) (by first | (show blkC ["term", "word", "inner"] (defScope s_term_text) _ _ = true; decide +kernel) | kernel_rfl | rfl)) (fun _ _ _ _ _ => t_name (i := 2) sc_term_text.nd) (gok_name 2) (by decide) (fun _ _ _ _ _ => pts_nilT) (fun _ _ _ _ _ => c_call ih_term_text hr (a_cons (d_var 2) (a_nil)))))))))) (d_peek (d_str)))))))
theorem ok_term_text (T : Txt0 K mg C_Rule) : OkF P w K mg base 12 "term_text" ["term"] m_term_text := (okr_term_text T 11)
/-! ### is_part -/
noncomputable def b_is_part : SS := sRet (eOp (oInT false) (eOp oIx (ePeek 0) (eC (.int 0))) (eTup (aCons (eC (.str "of")) (aCons (eC (.str "now")) (aNil)))))
noncomputable def m_is_part : FM := fnM 1 1 b_is_part
theorem sc_is_part : FnScope ["term"] ["term"] (defScope s_is_part) := ⟨rfl, rfl, rfl, by decide +kernel, rfl, by decide +kernel, by decide +kernel⟩
theorem ok_is_part (T : Txt0 K mg C_Rule) : OkF P w K mg base 1 "is_part" ["term"] m_is_part := by
  refine okF_mk (nm := ["term"]) T.F_is_part sc_is_part (fun _ _ _ _ _ _ us hl => match us, hl with | [_], _ => rfl) (fun f cdv A outer s H E hr => ?_)
  exact s_one (s_ret (d_inT (d_peek (d_ix (d_look 0) (d_peek (d_int)))) (d_peek (d_tup (a_cons (d_str) (a_cons (d_str) (a_nil)))))))
/-! ### with_inside -/
noncomputable def b_with_inside : SS := sRet (eOp oAdd (eSl slT (ePeek 0) (oNone) (oSome (eNeg (eC (.int 1))))) (eTup (aCons (eVar 1) (aNil))))
noncomputable def m_with_inside : FM := fnM 2 2 b_with_inside
theorem sc_with_inside : FnScope ["term", "inner"] ["term", "inner"] (defScope s_with_inside) := ⟨rfl, rfl, rfl, by decide +kernel, rfl, by decide +kernel, by decide +kernel⟩
theorem ok_with_inside (T : Txt0 K mg C_Rule) : OkF P w K mg base 1 "with_inside" ["term", "inner"] m_with_inside := by
  refine okF_mk (nm := ["term", "inner"]) T.F_with_inside sc_with_inside (fun _ _ _ _ _ _ us hl => match us, hl with | [_, _], _ => rfl) (fun f cdv A outer s H E hr => ?_)
  exact s_one (s_ret (d_add (d_peek (d_slT (d_look 0) (o_none) (o_some (d_peek (d_neg (d_peek (d_int))))))) (d_peek (d_tup (a_cons (d_var 1) (a_nil))))))
/-! ### copied (recursion) -/
noncomputable def b_copied (r_copied : FM) : SS := sRet (eIf (bOf (eCall m_is_part [] (aCons (eVar 0) (aNil)))) (eVar 0) (eCall m_with_inside [] (aCons (eVar 0) (aCons (eL (lComp (iSeq (eOp oIx (ePeek 0) (eNeg (eC (.int 1))))) (asgN 1) (bYes) (eCall r_copied [] (aCons (eVar 1) (aNil))) [1])) (aNil)))))
noncomputable def st_copied (p : FM) : FM := (fnM 1 2 (b_copied (p)))
noncomputable def mm_copied : Nat → FM
  | 0 => (fun _ _ => none)
  | n + 1 => st_copied (mm_copied n)
noncomputable abbrev mr_copied (n : Nat) : FM := (mm_copied n)
noncomputable abbrev m_copied : FM := mr_copied 11
theorem sr_copied (n : Nat) : mr_copied (n + 1) = fnM 1 2 (b_copied (mr_copied n)) := rfl
theorem sc_copied : FnScope ["term", "one"] ["term"] (defScope s_copied) := ⟨rfl, rfl, rfl, by decide +kernel, rfl, by decide +kernel, by decide +kernel⟩
theorem okr_copied (T : Txt0 K mg C_Rule) : ∀ n : Nat, OkF P w K mg base (2 + n) "copied" ["term"] (mr_copied n)
  | 0 => okF_0 T.F_copied (fun _ _ _ _ _ _ us hl => match us, hl with | [_], _ => rfl)
  | n + 1 => by
    have ih_copied := okr_copied T n
    refine okF_mk (k := 2 + n) (nm := ["term", "one"]) T.F_copied sc_copied (fun _ _ _ _ _ _ us hl => match us, hl with | [_], _ => rfl) (fun f cdv A outer s H E hr => ?_)
    have hr1 : Room 1 _ := hr.mono (by omega)
    exact s_one (s_ret (d_if (d_test (d_peek (c_call (ok_is_part T) hr1 (a_cons (d_var 0) (a_nil))))) (d_var 0) (c_call (ok_with_inside T) hr1 (a_cons (d_var 0) (a_cons (d_give (d_lc rfl sc_copied.nd (i_seq (d_ix (d_look 0) (d_peek (d_neg (d_peek (d_int)))))) (blkOk_by (own := [("one", 1)]) (by first | (show blkC ["term", "one"] (defScope s_copied) _ _ = true; decide +kernel) | kernel_rfl | rfl)) (fun _ _ _ _ _ => t_name (i := 1) sc_copied.nd) (gok_name 1) (by decide) (fun _ _ _ _ _ => pts_nilT) (fun _ _ _ _ _ => c_call ih_copied hr (a_cons (d_var 1) (a_nil))))) (a_nil))))))
theorem ok_copied (T : Txt0 K mg C_Rule) : OkF P w K mg base 13 "copied" ["term"] m_copied := (okr_copied T 11)
/-! ### Rule.term -/
noncomputable def b_Rule_term : SS := sRet (eCall m_copied [] (aCons (eFld "Rule" "form" (ePeek 0)) (aNil)))
noncomputable def m_Rule_term : FM := fnM 1 1 b_Rule_term
theorem sc_Rule_term : FnScope ["self"] ["self"] (defScope s_Rule_term) := ⟨rfl, rfl, rfl, by decide +kernel, rfl, by decide +kernel, by decide +kernel⟩
theorem ok_Rule_term (T : Txt0 K mg C_Rule) : OkM P w K mg base 14 C_Rule "term" ["self"] m_Rule_term := by
  refine okM_mk (nm := ["self"]) T.F_Rule_term sc_Rule_term (fun _ _ _ _ _ _ us hl => match us, hl with | [_], _ => rfl) (fun f cdv A outer s H E hr => ?_)
  have hr13 : Room 13 _ := hr.mono (by decide)
  exact s_one (s_ret (c_call (ok_copied T) hr13 (a_cons (d_fld (d_look 0) T.c_Rule T.k_Rule T.a_Rule_form) (a_nil))))
/-! ### rule_text -/
noncomputable def b_rule_text : SS := sSeq (sDrop (eCall m_check_rule [] (aCons (eVar 0) (aNil))))
  (sRet (eCall m_term_text [] (aCons (eMeth "Rule" "term" m_Rule_term [] (eVar 0) (aNil)) (aNil))))
noncomputable def m_rule_text : FM := fnM 1 1 b_rule_text
theorem sc_rule_text : FnScope ["rule"] ["rule"] (defScope s_rule_text) := ⟨rfl, rfl, rfl, by decide +kernel, rfl, by decide +kernel, by decide +kernel⟩
theorem ok_rule_text (T : Txt0 K mg C_Rule) : OkF P w K mg base 15 "rule_text" ["rule"] m_rule_text := by
  refine okF_mk (nm := ["rule"]) T.F_rule_text sc_rule_text (fun _ _ _ _ _ _ us hl => match us, hl with | [_], _ => rfl) (fun f cdv A outer s H E hr => ?_)
  have hr1 : Room 1 _ := hr.mono (by decide)
  have hr12 : Room 12 _ := hr.mono (by decide)
  have hr14 : Room 14 _ := hr.mono (by decide)
  exact s_cons (s_drop (d_peek (c_call (ok_check_rule T) hr1 (a_cons (d_var 0) (a_nil)))))
      (s_one (s_ret (c_call (ok_term_text T) hr12 (a_cons (c_meth0 (ok_Rule_term T) T.c_Rule T.k_Rule hr14 (d_var 0)) (a_nil)))))
/-! ### is_whole -/
noncomputable def b_is_whole : SS := sRet (eAnd (eBi (gIsi CS) (aCons (ePeek 0) (aCons (eC (.ty "int")) (aNil)))) (eNot (eBi (gIsi CS) (aCons (ePeek 0) (aCons (eC (.ty "bool")) (aNil))))))
noncomputable def m_is_whole : FM := fnM 1 1 b_is_whole
theorem sc_is_whole : FnScope ["value"] ["value"] (defScope s_is_whole) := ⟨rfl, rfl, rfl, by decide +kernel, rfl, by decide +kernel, by decide +kernel⟩
theorem ok_is_whole (T : Txt0 K mg C_Rule) : OkF P w K mg base 1 "is_whole" ["value"] m_is_whole := by
  refine okF_mk (nm := ["value"]) T.F_is_whole sc_is_whole (fun _ _ _ _ _ _ us hl => match us, hl with | [_], _ => rfl) (fun f cdv A outer s H E hr => ?_)
  exact s_one (s_ret (v_and (d_peek (d_isi T.isi (T.n_isinstance) (p_cons (d_look 0) (p_cons (d_peek (d_ty (by rfl) (T.n_int) (by rfl))) (p_nil))))) (v_one (v_not (d_peek (d_isi T.isi (T.n_isinstance) (p_cons (d_look 0) (p_cons (d_peek (d_ty (by rfl) (T.n_bool) (by rfl))) (p_nil)))))))))
/-! ### is_name -/
noncomputable def b_is_name : SS := sSeq (sIf (bOr (bNot (bOf (eBi (gIsi CS) (aCons (ePeek 0) (aCons (eC (.ty "str")) (aNil)))))) (bOr (bOf (eOp oLt (eBi gLen (aCons (ePeek 0) (aNil))) (eC (.int 1)))) (bOf (eOp oGt (eBi gLen (aCons (ePeek 0) (aNil))) (eC (.int 8))))))
  (sRet (eC (.bl false)))
  (sNil))
  (sRet (eOp oEq (eL (lComp (iSgn (ePeek 0)) (asgN 1) (bOf (eOp (oInS true) (ePeek 1) (eC (.str "abcdefghijklmnopqrstuvwxyz")))) (eVar 1) [1])) (eL (lDisp (aNil)))))
noncomputable def m_is_name : FM := fnM 1 2 b_is_name
theorem sc_is_name : FnScope ["value", "sign"] ["value"] (defScope s_is_name) := ⟨rfl, rfl, rfl, by decide +kernel, rfl, by decide +kernel, by decide +kernel⟩
theorem ok_is_name (T : Txt0 K mg C_Rule) : OkF P w K mg base 1 "is_name" ["value"] m_is_name := by
  refine okF_mk (nm := ["value", "sign"]) T.F_is_name sc_is_name (fun _ _ _ _ _ _ us hl => match us, hl with | [_], _ => rfl) (fun f cdv A outer s H E hr => ?_)
  exact s_cons (s_if (w_pt (w_or (d_not (d_test (d_peek (d_isi T.isi (T.n_isinstance) (p_cons (d_look 0) (p_cons (d_peek (d_ty (by rfl) (T.n_str) (by rfl))) (p_nil))))))) (w_or (d_testC (d_peek (d_lt (d_peek (d_len (T.n_len) (p_cons (d_look 0) (p_nil)))) (d_peek (d_int))))) (w_or1 (d_testC (d_peek (d_gt (d_peek (d_len (T.n_len) (p_cons (d_look 0) (p_nil)))) (d_peek (d_int)))))))))
      (s_one (s_ret (d_bl)))
      (s_nil))
      (s_one (s_ret (d_eq hr.units (d_peek (d_give (d_lc rfl sc_is_name.nd (i_str (d_look 0)) (blkOk_by (own := [("sign", 1)]) (by first | (show blkC ["value", "sign"] (defScope s_is_name) _ _ = true; decide +kernel) | kernel_rfl | rfl)) (fun _ _ _ _ _ => t_name (i := 1) sc_is_name.nd) (gok_name 1) (by decide) (fun _ _ _ _ _ => pts_oneT (d_testC (d_peek (d_ninS (d_look 1) (d_peek (d_gstr T.g_LETTERS)))))) (fun _ _ _ _ _ => d_var 1)))) (d_peek (d_give (d_lst (a_nil)))))))
/-! ### is_term, are_terms (recursion) -/
noncomputable def b_is_term (r_is_term r_are_terms : FM) : SS := sSeq (sIf (bOr (bNot (bOf (eBi (gIsi CS) (aCons (ePeek 0) (aCons (eC (.ty "tuple")) (aNil)))))) (bOr (bOf (eOp oLt (eBi gLen (aCons (ePeek 0) (aNil))) (eC (.int 2)))) (bNot (bOf (eBi (gIsi CS) (aCons (eOp oIx (ePeek 0) (eC (.int 0))) (aCons (eC (.ty "str")) (aNil))))))))
  (sRet (eC (.bl false)))
  (sNil))
  (sSeq (sIf (bOf (eOp (oInT false) (eOp oIx (ePeek 0) (eC (.int 0))) (eTup (aCons (eC (.str "of")) (aCons (eC (.str "now")) (aNil))))))
  (sRet (eAnd (eOp oEq (eBi gLen (aCons (ePeek 0) (aNil))) (eC (.int 3))) (eAnd (eCall m_is_name [] (aCons (eOp oIx (ePeek 0) (eC (.int 1))) (aNil))) (eCall m_is_whole [] (aCons (eOp oIx (ePeek 0) (eC (.int 2))) (aNil))))))
  (sNil))
  (sSeq (sIf (bOf (eOp (oInT false) (eOp oIx (ePeek 0) (eC (.int 0))) (eTup (aCons (eC (.str "first")) (aCons (eC (.str "last")) (aNil))))))
  (sRet (eAnd (eOp oEq (eBi gLen (aCons (ePeek 0) (aNil))) (eC (.int 2))) (eCall r_are_terms [] (aCons (eOp oIx (ePeek 0) (eC (.int 1))) (aNil)))))
  (sNil))
  (sSeq (sIf (bOr (bOf (eOp oNe (eOp oIx (ePeek 0) (eC (.int 0))) (eC (.str "rank")))) (bOr (bOf (eOp oNe (eBi gLen (aCons (ePeek 0) (aNil))) (eC (.int 3)))) (bOr (bNot (bOf (eCall m_is_whole [] (aCons (eOp oIx (ePeek 0) (eC (.int 1))) (aNil))))) (bNot (bOf (eCall r_are_terms [] (aCons (eOp oIx (ePeek 0) (eC (.int 2))) (aNil))))))))
  (sRet (eC (.bl false)))
  (sNil))
  (sRet (eChn (fun i j => decide (i ≤ j)) (fun i j => decide (i ≤ j)) (eC (.int 1)) (eOp oIx (ePeek 0) (eC (.int 1))) (eBi gLen (aCons (eOp oIx (ePeek 0) (eC (.int 2))) (aNil))))))))
noncomputable def b_are_terms (r_is_term r_are_terms : FM) : SS := sSeq (sIf (bOr (bNot (bOf (eBi (gIsi CS) (aCons (ePeek 0) (aCons (eC (.ty "list")) (aNil)))))) (bOf (eOp oEq (ePeek 0) (eL (lDisp (aNil))))))
  (sRet (eC (.bl false)))
  (sNil))
  (sRet (eOp oEq (eL (lComp (iSeq (eVar 0)) (asgN 1) (bNot (bOf (eCall r_is_term [] (aCons (eVar 1) (aNil))))) (eVar 1) [1])) (eL (lDisp (aNil)))))
noncomputable def st_is_term_are_terms (p : FM × FM) : FM × FM := (fnM 1 1 (b_is_term (p.1) (p.2)), fnM 1 2 (b_are_terms (p.1) (p.2)))
noncomputable def mm_is_term_are_terms : Nat → FM × FM
  | 0 => (fun _ _ => none, fun _ _ => none)
  | n + 1 => st_is_term_are_terms (mm_is_term_are_terms n)
noncomputable abbrev mr_is_term (n : Nat) : FM := (mm_is_term_are_terms n).1
noncomputable abbrev m_is_term : FM := mr_is_term 22
noncomputable abbrev mr_are_terms (n : Nat) : FM := (mm_is_term_are_terms n).2
theorem sr_is_term (n : Nat) : mr_is_term (n + 1) = fnM 1 1 (b_is_term (mr_is_term n) (mr_are_terms n)) := rfl
theorem sr_are_terms (n : Nat) : mr_are_terms (n + 1) = fnM 1 2 (b_are_terms (mr_is_term n) (mr_are_terms n)) := rfl
theorem sc_is_term : FnScope ["value"] ["value"] (defScope s_is_term) := ⟨rfl, rfl, rfl, by decide +kernel, rfl, by decide +kernel, by decide +kernel⟩
theorem sc_are_terms : FnScope ["value", "one"] ["value"] (defScope s_are_terms) := ⟨rfl, rfl, rfl, by decide +kernel, rfl, by decide +kernel, by decide +kernel⟩
theorem okr_is_term_are_terms (T : Txt0 K mg C_Rule) : ∀ n : Nat, OkF P w K mg base (2 + n) "is_term" ["value"] (mr_is_term n) ∧ OkF P w K mg base (2 + n) "are_terms" ["value"] (mr_are_terms n)
  | 0 => ⟨okF_0 T.F_is_term (fun _ _ _ _ _ _ us hl => match us, hl with | [_], _ => rfl), okF_0 T.F_are_terms (fun _ _ _ _ _ _ us hl => match us, hl with | [_], _ => rfl)⟩
  | n + 1 => by
    obtain ⟨ih_is_term, ih_are_terms⟩ := okr_is_term_are_terms T n
    refine ⟨?_, ?_⟩
    · refine okF_mk (k := 2 + n) (nm := ["value"]) T.F_is_term sc_is_term (fun _ _ _ _ _ _ us hl => match us, hl with | [_], _ => rfl) (fun f cdv A outer s H E hr => ?_)
      have hr1 : Room 1 _ := hr.mono (by omega)
      exact s_cons (s_if (w_pt (w_or (d_not (d_test (d_peek (d_isi T.isi (T.n_isinstance) (p_cons (d_look 0) (p_cons (d_peek (d_ty (by rfl) (T.n_tuple) (by rfl))) (p_nil))))))) (w_or (d_testC (d_peek (d_lt (d_peek (d_len (T.n_len) (p_cons (d_look 0) (p_nil)))) (d_peek (d_int))))) (w_or1 (d_not (d_test (d_peek (d_isi T.isi (T.n_isinstance) (p_cons (d_peek (d_ix (d_look 0) (d_peek (d_int)))) (p_cons (d_peek (d_ty (by rfl) (T.n_str) (by rfl))) (p_nil)))))))))))
            (s_one (s_ret (d_bl)))
            (s_nil))
            (s_cons (s_if (d_testC (d_peek (d_inT (d_peek (d_ix (d_look 0) (d_peek (d_int)))) (d_peek (d_tup (a_cons (d_str) (a_cons (d_str) (a_nil))))))))
            (s_one (s_ret (v_and (d_peek (d_eq hr.units (d_peek (d_len (T.n_len) (p_cons (d_look 0) (p_nil)))) (d_peek (d_int)))) (v_and (d_peek (c_call (ok_is_name T) hr1 (a_cons (d_ix (d_look 0) (d_peek (d_int))) (a_nil)))) (v_one (c_call (ok_is_whole T) hr1 (a_cons (d_ix (d_look 0) (d_peek (d_int))) (a_nil))))))))
            (s_nil))
            (s_cons (s_if (d_testC (d_peek (d_inT (d_peek (d_ix (d_look 0) (d_peek (d_int)))) (d_peek (d_tup (a_cons (d_str) (a_cons (d_str) (a_nil))))))))
            (s_one (s_ret (v_and (d_peek (d_eq hr.units (d_peek (d_len (T.n_len) (p_cons (d_look 0) (p_nil)))) (d_peek (d_int)))) (v_one (c_call ih_are_terms hr (a_cons (d_ix (d_look 0) (d_peek (d_int))) (a_nil)))))))
            (s_nil))
            (s_cons (s_if (w_pt (w_or (d_testC (d_peek (d_ne hr.units (d_peek (d_ix (d_look 0) (d_peek (d_int)))) (d_peek (d_str))))) (w_or (d_testC (d_peek (d_ne hr.units (d_peek (d_len (T.n_len) (p_cons (d_look 0) (p_nil)))) (d_peek (d_int))))) (w_or (d_not (d_test (d_peek (c_call (ok_is_whole T) hr1 (a_cons (d_ix (d_look 0) (d_peek (d_int))) (a_nil)))))) (w_or1 (d_not (d_test (d_peek (c_call ih_are_terms hr (a_cons (d_ix (d_look 0) (d_peek (d_int))) (a_nil)))))))))))
            (s_one (s_ret (d_bl)))
            (s_nil))
            (s_one (s_ret (d_chn op_le op_le (d_peek (d_int)) (d_peek (d_ix (d_look 0) (d_peek (d_int)))) (d_peek (d_len (T.n_len) (p_cons (d_peek (d_ix (d_look 0) (d_peek (d_int)))) (p_nil))))))))))
    · refine okF_mk (k := 2 + n) (nm := ["value", "one"]) T.F_are_terms sc_are_terms (fun _ _ _ _ _ _ us hl => match us, hl with | [_], _ => rfl) (fun f cdv A outer s H E hr => ?_)
      exact s_cons (s_if (w_pt (w_or (d_not (d_test (d_peek (d_isi T.isi (T.n_isinstance) (p_cons (d_look 0) (p_cons (d_peek (d_ty (by rfl) (T.n_list) (by rfl))) (p_nil))))))) (w_or1 (d_testC (d_peek (d_eq hr.units (d_look 0) (d_peek (d_give (d_lst (a_nil))))))))))
            (s_one (s_ret (d_bl)))
            (s_nil))
            (s_one (s_ret (d_eq hr.units (d_peek (d_give (d_lc rfl sc_are_terms.nd (i_seq (d_var 0)) (blkOk_by (own := [("one", 1)]) (by first | (show blkC ["value", "one"] (defScope s_are_terms) _ _ = true; decide +kernel) | kernel_rfl | rfl)) (fun _ _ _ _ _ => t_name (i := 1) sc_are_terms.nd) (gok_name 1) (by decide) (fun _ _ _ _ _ => pts_oneT (d_not (d_test (d_peek (c_call ih_is_term hr (a_cons (d_var 1) (a_nil))))))) (fun _ _ _ _ _ => d_var 1)))) (d_peek (d_give (d_lst (a_nil)))))))
theorem ok_is_term (T : Txt0 K mg C_Rule) : OkF P w K mg base 24 "is_term" ["value"] m_is_term := (okr_is_term_are_terms T 22).1
/-! ### Rule.__init__ -/
noncomputable def b_Rule___init__ : SS := sSeq (sIf (bNot (bOf (eCall m_is_term [] (aCons (eVar 1) (aNil)))))
  (sNever)
  (sNil))
  (sFld "Rule" 0 "form" (eCall m_copied [] (aCons (eVar 1) (aNil))))
noncomputable def m_Rule___init__ : FI := initM "Rule" 1 2 b_Rule___init__
theorem sc_Rule___init__ : FnScope ["self", "term"] ["self", "term"] (defScope s_Rule___init__) := ⟨rfl, rfl, rfl, by decide +kernel, rfl, by decide +kernel, by decide +kernel⟩
theorem ok_Rule___init__ (T : Txt0 K mg C_Rule) : OkC P w K mg base 25 "Rule" C_Rule 1 ["self", "term"] m_Rule___init__ := by
  refine okC_mk (nm := ["self", "term"]) T.F_Rule___init__ sc_Rule___init__ rfl rfl (fun _ _ _ _ _ _ us hl => match us, hl with | [_, _], _ => rfl) (fun f cdv A outer s H E hr => ?_)
  have hr13 : Room 13 _ := hr.mono (by decide)
  have hr24 : Room 24 _ := hr.mono (by decide)
  exact s_cons (s_if (d_not (d_test (d_peek (c_call (ok_is_term T) hr24 (a_cons (d_var 1) (a_nil))))))
      (s_one (s_never))
      (s_nil))
      (s_one (s_fld (i := 0) T.c_Rule T.k_Rule T.a_Rule_form (c_call (ok_copied T) hr13 (a_cons (d_var 1) (a_nil)))))
/-! ### whole_of -/
noncomputable def b_whole_of : SS := sSeq (sSet 1 (eIf (bOf (eOp oEq (eSl slS (ePeek 0) (oNone) (oSome (eC (.int 1)))) (eC (.str "-")))) (eSl slS (ePeek 0) (oSome (eC (.int 1))) (oNone)) (eVar 0)))
  (sSeq (sIf (bOr (bOf (eOp oEq (ePeek 1) (eC (.str "")))) (bOf (eOp oNe (eL (lComp (iSgn (ePeek 1)) (asgN 2) (bOf (eOp (oInS true) (ePeek 2) (eC (.str "0123456789")))) (eVar 2) [2])) (eL (lDisp (aNil))))))
  (sRet (eC .non))
  (sNil))
  (sRet (eIf (bAnd (bOf (eOp oEq (eOp oIx (ePeek 1) (eC (.int 0))) (eC (.str "0")))) (bOf (eOp oNe (ePeek 0) (eC (.str "0"))))) (eC .non) (eBi gIntS (aCons (ePeek 0) (aNil))))))
noncomputable def m_whole_of : FM := fnM 1 3 b_whole_of
theorem sc_whole_of : FnScope ["word", "digits", "sign"] ["word"] (defScope s_whole_of) := ⟨rfl, rfl, rfl, by decide +kernel, rfl, by decide +kernel, by decide +kernel⟩
theorem ok_whole_of (T : Txt0 K mg C_Rule) : OkF P w K mg base 1 "whole_of" ["word"] m_whole_of := by
  refine okF_mk (nm := ["word", "digits", "sign"]) T.F_whole_of sc_whole_of (fun _ _ _ _ _ _ us hl => match us, hl with | [_], _ => rfl) (fun f cdv A outer s H E hr => ?_)
  exact s_cons (s_set (i := 1) sc_whole_of.nd (d_if (d_testC (d_peek (d_eq hr.units (d_peek (d_slS (d_look 0) (o_none) (o_some (d_peek (d_int))))) (d_peek (d_str))))) (d_slS (d_look 0) (o_some (d_peek (d_int))) (o_none)) (d_var 0)))
      (s_cons (s_if (w_pt (w_or (d_testC (d_peek (d_eq hr.units (d_look 1) (d_peek (d_str))))) (w_or1 (d_testC (d_peek (d_ne hr.units (d_peek (d_give (d_lc rfl sc_whole_of.nd (i_str (d_look 1)) (blkOk_by (own := [("sign", 2)]) (by first | (show blkC ["word", "digits", "sign"] (defScope s_whole_of) _ _ = true; decide +kernel) | kernel_rfl | rfl)) (fun _ _ _ _ _ => t_name (i := 2) sc_whole_of.nd) (gok_name 2) (by decide) (fun _ _ _ _ _ => pts_oneT (d_testC (d_peek (d_ninS (d_look 2) (d_peek (d_str)))))) (fun _ _ _ _ _ => d_var 2)))) (d_peek (d_give (d_lst (a_nil))))))))))
      (s_one (s_ret (d_non)))
      (s_nil))
      (s_one (s_ret (d_if (w_pt (w_and (d_testC (d_peek (d_eq hr.units (d_peek (d_ix (d_look 1) (d_peek (d_int)))) (d_peek (d_str))))) (w_and1 (d_testC (d_peek (d_ne hr.units (d_look 0) (d_peek (d_str)))))))) (d_non) (d_intS T.n_int (p_cons (d_look 0) (p_nil)))))))
/-! ### named_at -/
noncomputable def b_named_at : SS := sSeq (sSet 2 (eVar 1))
  (sSeq (sWhile 16 (bAnd (bOf (eOp oLt (ePeek 2) (eBi gLen (aCons (ePeek 0) (aNil))))) (bOf (eOp (oInS false) (eOp oIx (ePeek 0) (ePeek 2)) (eC (.str "abcdefghijklmnopqrstuvwxyz")))))
  (sSet 2 (eOp oAdd (ePeek 2) (eC (.int 1)))))
  (sSeq (sSet 3 (eOp oAdd (ePeek 2) (eC (.int 1))))
  (sSeq (sWhile 16 (bAnd (bOf (eOp oLt (ePeek 3) (eBi gLen (aCons (ePeek 0) (aNil))))) (bOf (eOp (oInS false) (eOp oIx (ePeek 0) (ePeek 3)) (eC (.str "-0123456789")))))
  (sSet 3 (eOp oAdd (ePeek 3) (eC (.int 1)))))
  (sSeq (sSet 4 (eCall m_whole_of [] (aCons (eSl slS (ePeek 0) (oSome (eOp oAdd (ePeek 2) (eC (.int 1)))) (oSome (ePeek 3))) (aNil))))
  (sSeq (sIf (bOr (bNot (bOf (eCall m_is_name [] (aCons (eSl slS (ePeek 0) (oSome (ePeek 1)) (oSome (ePeek 2))) (aNil))))) (bOr (bOf (eOp oNe (eSl slS (ePeek 0) (oSome (ePeek 2)) (oSome (eOp oAdd (ePeek 2) (eC (.int 1))))) (eC (.str " ")))) (bOf (eOp oIsN (ePeek 4) (eC .non)))))
  (sRet (eC .non))
  (sNil))
  (sRet (eTup (aCons (eSl slS (ePeek 0) (oSome (ePeek 1)) (oSome (ePeek 2))) (aCons (eVar 4) (aCons (eVar 3) (aNil)))))))))))
noncomputable def m_named_at : FM := fnM 2 5 b_named_at
theorem sc_named_at : FnScope ["text", "at", "end", "last", "number"] ["text", "at"] (defScope s_named_at) := ⟨rfl, rfl, rfl, by decide +kernel, rfl, by decide +kernel, by decide +kernel⟩
theorem ok_named_at (T : Txt0 K mg C_Rule) : OkF P w K mg base 2 "named_at" ["text", "at"] m_named_at := by
  refine okF_mk (nm := ["text", "at", "end", "last", "number"]) T.F_named_at sc_named_at (fun _ _ _ _ _ _ us hl => match us, hl with | [_, _], _ => rfl) (fun f cdv A outer s H E hr => ?_)
  have hr1 : Room 1 _ := hr.mono (by decide)
  exact s_cons (s_set (i := 2) sc_named_at.nd (d_var 1))
      (s_cons (s_while 16 PassesOwn.never (w_pt (w_and (d_testC (d_peek (d_lt (d_look 2) (d_peek (d_len (T.n_len) (p_cons (d_look 0) (p_nil))))))) (w_and1 (d_testC (d_peek (d_inS (d_peek (d_ix (d_look 0) (d_look 2))) (d_peek (d_gstr T.g_LETTERS))))))))
      (s_one (s_set (i := 2) sc_named_at.nd (d_add (d_look 2) (d_peek (d_int))))))
      (s_cons (s_set (i := 3) sc_named_at.nd (d_add (d_look 2) (d_peek (d_int))))
      (s_cons (s_while 16 PassesOwn.never (w_pt (w_and (d_testC (d_peek (d_lt (d_look 3) (d_peek (d_len (T.n_len) (p_cons (d_look 0) (p_nil))))))) (w_and1 (d_testC (d_peek (d_inS (d_peek (d_ix (d_look 0) (d_look 3))) (d_peek (d_str))))))))
      (s_one (s_set (i := 3) sc_named_at.nd (d_add (d_look 3) (d_peek (d_int))))))
      (s_cons (s_set (i := 4) sc_named_at.nd (c_call (ok_whole_of T) hr1 (a_cons (d_slS (d_look 0) (o_some (d_peek (d_add (d_look 2) (d_peek (d_int))))) (o_some (d_look 3))) (a_nil))))
      (s_cons (s_if (w_pt (w_or (d_not (d_test (d_peek (c_call (ok_is_name T) hr1 (a_cons (d_slS (d_look 0) (o_some (d_look 1)) (o_some (d_look 2))) (a_nil)))))) (w_or (d_testC (d_peek (d_ne hr.units (d_peek (d_slS (d_look 0) (o_some (d_look 2)) (o_some (d_peek (d_add (d_look 2) (d_peek (d_int))))))) (d_peek (d_str))))) (w_or1 (d_testC (d_peek (d_isN (d_look 4) (d_peek (d_non)))))))))
      (s_one (s_ret (d_non)))
      (s_nil))
      (s_one (s_ret (d_tup (a_cons (d_slS (d_look 0) (o_some (d_look 1)) (o_some (d_look 2))) (a_cons (d_var 4) (a_cons (d_var 3) (a_nil))))))))))))
/-! ### term_at, terms_at (recursion) -/
noncomputable def b_term_at (r_term_at r_terms_at : FM) : SS := sSeq (sFor (iSeq (eTup (aCons (eC (.str "first")) (aCons (eC (.str "last")) (aNil))))) (asgN 2)
  (sIf (bOf (eSw3 (ePeek 0) (aCons (eOp oAdd (ePeek 2) (eC (.str "("))) (aCons (ePeek 1) (aNil)))))
  (sSeq (sSet 3 (eCall r_terms_at [] (aCons (eVar 0) (aCons (eOp oAdd (eOp oAdd (ePeek 1) (eBi gLen (aCons (ePeek 2) (aNil)))) (eC (.int 1))) (aNil)))))
  (sRet (eIf (bOf (eOp oIsN (ePeek 3) (eC .non))) (eC .non) (eTup (aCons (eTup (aCons (eVar 2) (aCons (eOp oIx (ePeek 3) (eC (.int 0))) (aNil)))) (aCons (eOp oIx (ePeek 3) (eC (.int 1))) (aNil)))))))
  (sNil)))
  (sSeq (sIf (bAnd (bOf (eSw3 (ePeek 0) (aCons (eC (.str "now ")) (aCons (ePeek 1) (aNil))))) (bOf (eOp (oInS false) (eSl slS (ePeek 0) (oSome (eOp oAdd (ePeek 1) (eC (.int 4)))) (oSome (eOp oAdd (ePeek 1) (eC (.int 5))))) (eC (.str "abcdefghijklmnopqrstuvwxyz")))))
  (sSeq (sSet 4 (eCall m_named_at [] (aCons (eVar 0) (aCons (eOp oAdd (ePeek 1) (eC (.int 4))) (aNil)))))
  (sRet (eIf (bOf (eOp oIsN (ePeek 4) (eC .non))) (eC .non) (eTup (aCons (eTup (aCons (eC (.str "now")) (aCons (eOp oIx (ePeek 4) (eC (.int 0))) (aCons (eOp oIx (ePeek 4) (eC (.int 1))) (aNil))))) (aCons (eOp oIx (ePeek 4) (eC (.int 2))) (aNil)))))))
  (sNil))
  (sSeq (sSet 4 (eCall m_named_at [] (aCons (eVar 0) (aCons (eVar 1) (aNil)))))
  (sSeq (sIf (bOr (bOf (eOp oIsN (ePeek 4) (eC .non))) (bOr (bOf (eOp oNe (eOp oIx (ePeek 4) (eC (.int 0))) (eC (.str "rank")))) (bOf (eOp oNe (eSl slS (ePeek 0) (oSome (eOp oIx (ePeek 4) (eC (.int 2)))) (oSome (eOp oAdd (eOp oIx (ePeek 4) (eC (.int 2))) (eC (.int 1))))) (eC (.str "("))))))
  (sRet (eIf (bOf (eOp oIsN (ePeek 4) (eC .non))) (eC .non) (eTup (aCons (eTup (aCons (eC (.str "of")) (aCons (eOp oIx (ePeek 4) (eC (.int 0))) (aCons (eOp oIx (ePeek 4) (eC (.int 1))) (aNil))))) (aCons (eOp oIx (ePeek 4) (eC (.int 2))) (aNil))))))
  (sNil))
  (sSeq (sSet 3 (eCall r_terms_at [] (aCons (eVar 0) (aCons (eOp oAdd (eOp oIx (ePeek 4) (eC (.int 2))) (eC (.int 1))) (aNil)))))
  (sSeq (sIf (bOr (bOf (eOp oIsN (ePeek 3) (eC .non))) (bOr (bOf (eOp oLt (eOp oIx (ePeek 4) (eC (.int 1))) (eC (.int 1)))) (bOf (eOp oGt (eOp oIx (ePeek 4) (eC (.int 1))) (eBi gLen (aCons (eOp oIx (ePeek 3) (eC (.int 0))) (aNil)))))))
  (sRet (eC .non))
  (sNil))
  (sRet (eTup (aCons (eTup (aCons (eC (.str "rank")) (aCons (eOp oIx (ePeek 4) (eC (.int 1))) (aCons (eOp oIx (ePeek 3) (eC (.int 0))) (aNil))))) (aCons (eOp oIx (ePeek 3) (eC (.int 1))) (aNil))))))))))
noncomputable def b_terms_at (r_term_at r_terms_at : FM) : SS := sSeq (sOwn 2 (lDisp (aNil)))
  (sSeq (sWhile 8 (bOr (bOf (eOp oEqN (ePeek 2) (eL (lDisp (aNil))))) (bOf (eOp oEq (eSl slS (ePeek 0) (oSome (eOp oSub (ePeek 1) (eC (.int 2)))) (oSome (ePeek 1))) (eC (.str ", ")))))
  (sSeq (sSet 3 (eCall r_term_at [] (aCons (eVar 0) (aCons (eVar 1) (aNil)))))
  (sSeq (sIf (bOf (eOp oIsN (ePeek 3) (eC .non)))
  (sRet (eC .non))
  (sNil))
  (sSeq (sApp 2 (eOp oIx (ePeek 3) (eC (.int 0))))
  (sSeq (sIf (bOf (eOp oEq (eSl slS (ePeek 0) (oSome (eOp oIx (ePeek 3) (eC (.int 1)))) (oSome (eOp oAdd (eOp oIx (ePeek 3) (eC (.int 1))) (eC (.int 1))))) (eC (.str ")"))))
  (sFrz 2 (sRet (eTup (aCons (eVar 2) (aCons (eOp oAdd (eOp oIx (ePeek 3) (eC (.int 1))) (eC (.int 1))) (aNil))))))
  (sNil))
  (sSet 1 (eOp oAdd (eOp oIx (ePeek 3) (eC (.int 1))) (eC (.int 2)))))))))
  (sRet (eC .non)))
noncomputable def st_term_at_terms_at (p : FM × FM) : FM × FM := (fnM 2 5 (b_term_at (p.1) (p.2)), fnM 2 4 (b_terms_at (p.1) (p.2)))
noncomputable def mm_term_at_terms_at : Nat → FM × FM
  | 0 => (fun _ _ => none, fun _ _ => none)
  | n + 1 => st_term_at_terms_at (mm_term_at_terms_at n)
noncomputable abbrev mr_term_at (n : Nat) : FM := (mm_term_at_terms_at n).1
noncomputable abbrev m_term_at : FM := mr_term_at 12
noncomputable abbrev mr_terms_at (n : Nat) : FM := (mm_term_at_terms_at n).2
theorem sr_term_at (n : Nat) : mr_term_at (n + 1) = fnM 2 5 (b_term_at (mr_term_at n) (mr_terms_at n)) := rfl
theorem sr_terms_at (n : Nat) : mr_terms_at (n + 1) = fnM 2 4 (b_terms_at (mr_term_at n) (mr_terms_at n)) := rfl
theorem sc_term_at : FnScope ["text", "at", "word", "inner", "part"] ["text", "at"] (defScope s_term_at) := ⟨rfl, rfl, rfl, by decide +kernel, rfl, by decide +kernel, by decide +kernel⟩
theorem sc_terms_at : FnScope ["text", "at", "found", "one"] ["text", "at"] (defScope s_terms_at) := ⟨rfl, rfl, rfl, by decide +kernel, rfl, by decide +kernel, by decide +kernel⟩
theorem okr_term_at_terms_at (T : Txt0 K mg C_Rule) : ∀ n : Nat, OkF P w K mg base (3 + n) "term_at" ["text", "at"] (mr_term_at n) ∧ OkF P w K mg base (3 + n) "terms_at" ["text", "at"] (mr_terms_at n)
  | 0 => ⟨okF_0 T.F_term_at (fun _ _ _ _ _ _ us hl => match us, hl with | [_, _], _ => rfl), okF_0 T.F_terms_at (fun _ _ _ _ _ _ us hl => match us, hl with | [_, _], _ => rfl)⟩
  | n + 1 => by
    obtain ⟨ih_term_at, ih_terms_at⟩ := okr_term_at_terms_at T n
    refine ⟨?_, ?_⟩
    · refine okF_mk (k := 3 + n) (nm := ["text", "at", "word", "inner", "part"]) T.F_term_at sc_term_at (fun _ _ _ _ _ _ us hl => match us, hl with | [_, _], _ => rfl) (fun f cdv A outer s H E hr => ?_)
      have hr2 : Room 2 _ := hr.mono (by omega)
      exact s_cons (s_for PassesOwn.never rfl (i_seq (d_tup (a_cons (d_str) (a_cons (d_str) (a_nil))))) (t_name (i := 2) sc_term_at.nd) (gok_name 2)
            (s_one (s_if (d_test (d_peek (d_sw3 (d_look 0) (p_cons (d_peek (d_add (d_look 2) (d_peek (d_str)))) (p_cons (d_look 1) (p_nil))))))
            (s_cons (s_set (i := 3) sc_term_at.nd (c_call ih_terms_at hr (a_cons (d_var 0) (a_cons (d_add (d_peek (d_add (d_look 1) (d_peek (d_len (T.n_len) (p_cons (d_look 2) (p_nil)))))) (d_peek (d_int))) (a_nil)))))
            (s_one (s_ret (d_if (d_testC (d_peek (d_isN (d_look 3) (d_peek (d_non))))) (d_non) (d_tup (a_cons (d_tup (a_cons (d_var 2) (a_cons (d_ix (d_look 3) (d_peek (d_int))) (a_nil)))) (a_cons (d_ix (d_look 3) (d_peek (d_int))) (a_nil))))))))
            (s_nil))))
            (s_cons (s_if (w_pt (w_and (d_test (d_peek (d_sw3 (d_look 0) (p_cons (d_peek (d_str)) (p_cons (d_look 1) (p_nil)))))) (w_and1 (d_testC (d_peek (d_inS (d_peek (d_slS (d_look 0) (o_some (d_peek (d_add (d_look 1) (d_peek (d_int))))) (o_some (d_peek (d_add (d_look 1) (d_peek (d_int))))))) (d_peek (d_gstr T.g_LETTERS))))))))
            (s_cons (s_set (i := 4) sc_term_at.nd (c_call (ok_named_at T) hr2 (a_cons (d_var 0) (a_cons (d_add (d_look 1) (d_peek (d_int))) (a_nil)))))
            (s_one (s_ret (d_if (d_testC (d_peek (d_isN (d_look 4) (d_peek (d_non))))) (d_non) (d_tup (a_cons (d_tup (a_cons (d_str) (a_cons (d_ix (d_look 4) (d_peek (d_int))) (a_cons (d_ix (d_look 4) (d_peek (d_int))) (a_nil))))) (a_cons (d_ix (d_look 4) (d_peek (d_int))) (a_nil))))))))
            (s_nil))
            (s_cons (s_set (i := 4) sc_term_at.nd (c_call (ok_named_at T) hr2 (a_cons (d_var 0) (a_cons (d_var 1) (a_nil)))))
            (s_cons (s_if (w_pt (w_or (d_testC (d_peek (d_isN (d_look 4) (d_peek (d_non))))) (w_or (d_testC (d_peek (d_ne hr.units (d_peek (d_ix (d_look 4) (d_peek (d_int)))) (d_peek (d_str))))) (w_or1 (d_testC (d_peek (d_ne hr.units (d_peek (d_slS (d_look 0) (o_some (d_peek (d_ix (d_look 4) (d_peek (d_int))))) (o_some (d_peek (d_add (d_peek (d_ix (d_look 4) (d_peek (d_int)))) (d_peek (d_int))))))) (d_peek (d_str)))))))))
            (s_one (s_ret (d_if (d_testC (d_peek (d_isN (d_look 4) (d_peek (d_non))))) (d_non) (d_tup (a_cons (d_tup (a_cons (d_str) (a_cons (d_ix (d_look 4) (d_peek (d_int))) (a_cons (d_ix (d_look 4) (d_peek (d_int))) (a_nil))))) (a_cons (d_ix (d_look 4) (d_peek (d_int))) (a_nil)))))))
            (s_nil))
            (s_cons (s_set (i := 3) sc_term_at.nd (c_call ih_terms_at hr (a_cons (d_var 0) (a_cons (d_add (d_peek (d_ix (d_look 4) (d_peek (d_int)))) (d_peek (d_int))) (a_nil)))))
            (s_cons (s_if (w_pt (w_or (d_testC (d_peek (d_isN (d_look 3) (d_peek (d_non))))) (w_or (d_testC (d_peek (d_lt (d_peek (d_ix (d_look 4) (d_peek (d_int)))) (d_peek (d_int))))) (w_or1 (d_testC (d_peek (d_gt (d_peek (d_ix (d_look 4) (d_peek (d_int)))) (d_peek (d_len (T.n_len) (p_cons (d_peek (d_ix (d_look 3) (d_peek (d_int)))) (p_nil)))))))))))
            (s_one (s_ret (d_non)))
            (s_nil))
            (s_one (s_ret (d_tup (a_cons (d_tup (a_cons (d_str) (a_cons (d_ix (d_look 4) (d_peek (d_int))) (a_cons (d_ix (d_look 3) (d_peek (d_int))) (a_nil))))) (a_cons (d_ix (d_look 3) (d_peek (d_int))) (a_nil)))))))))))
    · refine okF_mk (k := 3 + n) (nm := ["text", "at", "found", "one"]) T.F_terms_at sc_terms_at (fun _ _ _ _ _ _ us hl => match us, hl with | [_, _], _ => rfl) (fun f cdv A outer s H E hr => ?_)
      exact s_cons (s_own (i := 2) sc_terms_at.nd (d_lst (a_nil)))
            (s_cons (s_while 8 PassesOwn.never (w_pt (w_or (d_testC (d_peek (d_eqN (u0 hr) (d_look 2) (d_peek (d_give (d_lst (a_nil))))))) (w_or1 (d_testC (d_peek (d_eq hr.units (d_peek (d_slS (d_look 0) (o_some (d_peek (d_sub (d_look 1) (d_peek (d_int))))) (o_some (d_look 1)))) (d_peek (d_str))))))))
            (s_cons (s_set (i := 3) sc_terms_at.nd (c_call ih_term_at hr (a_cons (d_var 0) (a_cons (d_var 1) (a_nil)))))
            (s_cons (s_if (d_testC (d_peek (d_isN (d_look 3) (d_peek (d_non)))))
            (s_one (s_ret (d_non)))
            (s_nil))
            (s_cons (s_app (i := 2) (d_ix (d_look 3) (d_peek (d_int))))
            (s_cons (s_if (d_testC (d_peek (d_eq hr.units (d_peek (d_slS (d_look 0) (o_some (d_peek (d_ix (d_look 3) (d_peek (d_int))))) (o_some (d_peek (d_add (d_peek (d_ix (d_look 3) (d_peek (d_int)))) (d_peek (d_int))))))) (d_peek (d_str)))))
            (s_one (s_frz 2 (s_ret (d_tup (a_cons (d_var 2) (a_cons (d_add (d_peek (d_ix (d_look 3) (d_peek (d_int)))) (d_peek (d_int))) (a_nil)))))))
            (s_nil))
            (s_one (s_set (i := 1) sc_terms_at.nd (d_add (d_peek (d_ix (d_look 3) (d_peek (d_int)))) (d_peek (d_int))))))))))
            (s_one (s_ret (d_non))))
theorem ok_term_at (T : Txt0 K mg C_Rule) : OkF P w K mg base 15 "term_at" ["text", "at"] m_term_at := (okr_term_at_terms_at T 12).1
/-! ### rule_in -/
noncomputable def b_rule_in : SS := sSeq (sSet 1 (eCall m_term_at [] (aCons (eVar 0) (aCons (eC (.int 0)) (aNil)))))
  (sRet (eIf (bOr (bOf (eOp oIsN (ePeek 1) (eC .non))) (bOf (eOp oNe (eOp oIx (ePeek 1) (eC (.int 1))) (eBi gLen (aCons (ePeek 0) (aNil)))))) (eC .non) (eMake "Rule" m_Rule___init__ [] (aCons (eOp oIx (ePeek 1) (eC (.int 0))) (aNil)))))
noncomputable def m_rule_in : FM := fnM 1 2 b_rule_in
theorem sc_rule_in : FnScope ["text", "found"] ["text"] (defScope s_rule_in) := ⟨rfl, rfl, rfl, by decide +kernel, rfl, by decide +kernel, by decide +kernel⟩
theorem ok_rule_in (T : Txt0 K mg C_Rule) : OkF P w K mg base 27 "rule_in" ["text"] m_rule_in := by
  refine okF_mk (nm := ["text", "found"]) T.F_rule_in sc_rule_in (fun _ _ _ _ _ _ us hl => match us, hl with | [_], _ => rfl) (fun f cdv A outer s H E hr => ?_)
  have hr15 : Room 15 _ := hr.mono (by decide)
  have hr26 : Room 26 _ := hr.mono (by decide)
  exact s_cons (s_set (i := 1) sc_rule_in.nd (c_call (ok_term_at T) hr15 (a_cons (d_var 0) (a_cons (d_int) (a_nil)))))
      (s_one (s_ret (d_if (w_pt (w_or (d_testC (d_peek (d_isN (d_look 1) (d_peek (d_non))))) (w_or1 (d_testC (d_peek (d_ne hr.units (d_peek (d_ix (d_look 1) (d_peek (d_int)))) (d_peek (d_len (T.n_len) (p_cons (d_look 0) (p_nil)))))))))) (d_non) (c_make (ok_Rule___init__ T) T.c_Rule hr26 (a_cons (d_ix (d_look 1) (d_peek (d_int))) (a_nil))))))
/-! ### read_by -/
noncomputable def b_read_by : SS := sSeq (sSet 2 (eC .non))
  (sSeq (sIf (bOf (eBi (gIsi CS) (aCons (ePeek 1) (aCons (eC (.ty "str")) (aNil)))))
  (sTry (subT []) (xL (sSet 2 (eCallV 0 "rule_in" m_rule_in (aCons (eVar 1) (aNil))))) [("LeafError", none, fun _ => sSet 2 (eC .non))])
  (sNil))
  (sSeq (sIf (bOf (eOp oIsN (ePeek 2) (eC .non)))
  (sNever)
  (sNil))
  (sRet (eVar 2))))
noncomputable def m_read_by : FM := fnM 2 3 b_read_by
theorem sc_read_by : FnScope ["inner", "text", "found"] ["inner", "text"] (defScope s_read_by) := ⟨rfl, rfl, rfl, by decide +kernel, rfl, by decide +kernel, by decide +kernel⟩
theorem ok_read_by (T : Txt0 K mg C_Rule) : OkF P w K mg base 28 "read_by" ["inner", "text"] m_read_by := by
  refine okF_mk (nm := ["inner", "text", "found"]) T.F_read_by sc_read_by (fun _ _ _ _ _ _ us hl => match us, hl with | [_, _], _ => rfl) (fun f cdv A outer s H E hr => ?_)
  have hr27 : Room 27 _ := hr.mono (by decide)
  obtain ⟨C_lf_LeafError, g_LeafError⟩ := T.cx_LeafError
  exact s_cons (s_set (i := 2) sc_read_by.nd (d_non))
      (s_cons (s_if (d_test (d_peek (d_isi T.isi (T.n_isinstance) (p_cons (d_look 1) (p_cons (d_peek (d_ty (by rfl) (T.n_str) (by rfl))) (p_nil))))))
      (s_one (s_try (mg := ⟨mg, K⟩) (sub := subT []) (fb := xL (sSet 2 (eCallV 0 "rule_in" m_rule_in (aCons (eVar 1) (aNil))))) (l := [(C_lf_LeafError, "LeafError", none, fun _ => sSet 2 (eC .non))]) (by exact T.em) (fun p hp => by
        simp only [List.mem_cons, List.not_mem_nil, or_false] at hp
        subst hp
        exact g_LeafError) sc_read_by.nd rfl rfl (fun W pn xe tk po => x_one (x_lift (s_set (i := 2) sc_read_by.nd (c_callV (i := 0) (ok_rule_in T) hr27 (a_cons (d_var 1) (a_nil))))))
      (hd_no g_LeafError (fun a oe pn => s_one (s_set (i := 2) sc_read_by.nd (d_non)))
      (hd_nil))))
      (s_nil))
      (s_cons (s_if (d_testC (d_peek (d_isN (d_look 2) (d_peek (d_non)))))
      (s_one (s_never))
      (s_nil))
      (s_one (s_ret (d_var 2)))))
/-! ### read_rule -/
noncomputable def b_read_rule : SS := sRet (eCall m_read_by [] (aCons (eC (.cls "rule_in")) (aCons (eVar 0) (aNil))))
noncomputable def m_read_rule : FM := fnM 1 1 b_read_rule
theorem sc_read_rule : FnScope ["text"] ["text"] (defScope s_read_rule) := ⟨rfl, rfl, rfl, by decide +kernel, rfl, by decide +kernel, by decide +kernel⟩
theorem ok_read_rule (T : Txt0 K mg C_Rule) : OkF P w K mg base 29 "read_rule" ["text"] m_read_rule := by
  refine okF_mk (nm := ["text"]) T.F_read_rule sc_read_rule (fun _ _ _ _ _ _ us hl => match us, hl with | [_], _ => rfl) (fun f cdv A outer s H E hr => ?_)
  have hr28 : Room 28 _ := hr.mono (by decide)
  exact s_one (s_ret (c_call (ok_read_by T) hr28 (a_cons (d_fnv T.F_rule_in) (a_cons (d_var 0) (a_nil)))))
/-! ### _law_number_text -/
noncomputable def b__law_number_text : SS := sSeq (sPar 1 2 (.val (eC (.str ""))) (.val (eBi gAbs (aCons (ePeek 0) (aNil)))))
  (sSeq (sWhile 16 (bOr (bOf (eOp oGt (ePeek 2) (eC (.int 0)))) (bOf (eOp oEq (ePeek 1) (eC (.str "")))))
  (sPar 1 2 (.val (eOp oAdd (eOp oIx (eC (.str "0123456789")) (eOp oMod (ePeek 2) (eC (.int 10)))) (ePeek 1))) (.val (eOp oDiv (ePeek 2) (eC (.int 10))))))
  (sRet (eIf (bOf (eOp oLt (ePeek 0) (eC (.int 0)))) (eOp oAdd (eC (.str "-")) (ePeek 1)) (eVar 1))))
noncomputable def m__law_number_text : FM := fnM 1 3 b__law_number_text
theorem sc__law_number_text : FnScope ["_law_number", "_law_digits", "_law_left"] ["_law_number"] (defScope s__law_number_text) := ⟨rfl, rfl, rfl, by decide +kernel, rfl, by decide +kernel, by decide +kernel⟩
theorem ok__law_number_text (T : Txt0 K mg C_Rule) : OkF P w K mg base 1 "_law_number_text" ["_law_number"] m__law_number_text := by
  refine okF_mk (nm := ["_law_number", "_law_digits", "_law_left"]) T.F__law_number_text sc__law_number_text (fun _ _ _ _ _ _ us hl => match us, hl with | [_], _ => rfl) (fun f cdv A outer s H E hr => ?_)
  exact s_cons (s_par (i := 1) (j := 2) (ka := .val (eC (.str ""))) (kb := .val (eBi gAbs (aCons (ePeek 0) (aNil)))) sc__law_number_text.nd (k_val (d_str)) (k_val (d_abs T.n_abs (p_cons (d_look 0) (p_nil)))))
      (s_cons (s_while 16 PassesOwn.never (w_pt (w_or (d_testC (d_peek (d_gt (d_look 2) (d_peek (d_int))))) (w_or1 (d_testC (d_peek (d_eq hr.units (d_look 1) (d_peek (d_str))))))))
      (s_one (s_par (i := 1) (j := 2) (ka := .val (eOp oAdd (eOp oIx (eC (.str "0123456789")) (eOp oMod (ePeek 2) (eC (.int 10)))) (ePeek 1))) (kb := .val (eOp oDiv (ePeek 2) (eC (.int 10)))) sc__law_number_text.nd (k_val (d_add (d_peek (d_ix (d_peek (d_str)) (d_peek (d_mod (d_look 2) (d_peek (d_int)))))) (d_look 1))) (k_val (d_div (d_look 2) (d_peek (d_int)))))))
      (s_one (s_ret (d_if (d_testC (d_peek (d_lt (d_look 0) (d_peek (d_int))))) (d_add (d_peek (d_str)) (d_look 1)) (d_var 1)))))
/-! ### _law_term_text (recursion) -/
noncomputable def b__law_term_text (r__law_term_text : FM) : SS := sSeq (sIf (bOf (eOp oEq (eOp oIx (ePeek 0) (eC (.int 0))) (eC (.str "of"))))
  (sRet (eOp oAdd (eOp oAdd (eOp oIx (ePeek 0) (eC (.int 1))) (eC (.str " "))) (eCall m__law_number_text [] (aCons (eOp oIx (ePeek 0) (eC (.int 2))) (aNil)))))
  (sNil))
  (sSeq (sIf (bOf (eOp oEq (eOp oIx (ePeek 0) (eC (.int 0))) (eC (.str "now"))))
  (sRet (eOp oAdd (eOp oAdd (eOp oAdd (eC (.str "now ")) (eOp oIx (ePeek 0) (eC (.int 1)))) (eC (.str " "))) (eCall m__law_number_text [] (aCons (eOp oIx (ePeek 0) (eC (.int 2))) (aNil)))))
  (sNil))
  (sSeq (sSet 1 (eIf (bOf (eOp oEq (eOp oIx (ePeek 0) (eC (.int 0))) (eC (.str "rank")))) (eOp oAdd (eOp oAdd (eOp oIx (ePeek 0) (eC (.int 0))) (eC (.str " "))) (eCall m__law_number_text [] (aCons (eOp oIx (ePeek 0) (eC (.int 1))) (aNil)))) (eOp oIx (ePeek 0) (eC (.int 0)))))
  (sRet (eOp oAdd (eOp oAdd (eOp oAdd (ePeek 1) (eC (.str "("))) (eJoin (eC (.str ", ")) (eL (lComp (iSeq (eOp oIx (ePeek 0) (eNeg (eC (.int 1))))) (asgN 2) (bYes) (eCall r__law_term_text [] (aCons (eVar 2) (aNil))) [2])))) (eC (.str ")"))))))
noncomputable def st__law_term_text (p : FM) : FM := (fnM 1 3 (b__law_term_text (p)))
noncomputable def mm__law_term_text : Nat → FM
  | 0 => (fun _ _ => none)
  | n + 1 => st__law_term_text (mm__law_term_text n)
noncomputable abbrev mr__law_term_text (n : Nat) : FM := (mm__law_term_text n)
noncomputable abbrev m__law_term_text : FM := mr__law_term_text 11
theorem sr__law_term_text (n : Nat) : mr__law_term_text (n + 1) = fnM 1 3 (b__law_term_text (mr__law_term_text n)) := rfl
theorem sc__law_term_text : FnScope ["_law_term", "_law_word_here", "_law_one"] ["_law_term"] (defScope s__law_term_text) := ⟨rfl, rfl, rfl, by decide +kernel, rfl, by decide +kernel, by decide +kernel⟩
theorem okr__law_term_text (T : Txt0 K mg C_Rule) : ∀ n : Nat, OkF P w K mg base (2 + n) "_law_term_text" ["_law_term"] (mr__law_term_text n)
  | 0 => okF_0 T.F__law_term_text (fun _ _ _ _ _ _ us hl => match us, hl with | [_], _ => rfl)
  | n + 1 => by
    have ih__law_term_text := okr__law_term_text T n
    refine okF_mk (k := 2 + n) (nm := ["_law_term", "_law_word_here", "_law_one"]) T.F__law_term_text sc__law_term_text (fun _ _ _ _ _ _ us hl => match us, hl with | [_], _ => rfl) (fun f cdv A outer s H E hr => ?_)
    have hr1 : Room 1 _ := hr.mono (by omega)
    exact s_cons (s_if (d_testC (d_peek (d_eq hr.units (d_peek (d_ix (d_look 0) (d_peek (d_int)))) (d_peek (d_str)))))
            (s_one (s_ret (d_add (d_peek (d_add (d_peek (d_ix (d_look 0) (d_peek (d_int)))) (d_peek (d_str)))) (d_peek (c_call (ok__law_number_text T) hr1 (a_cons (d_ix (d_look 0) (d_peek (d_int))) (a_nil)))))))
            (s_nil))
            (s_cons (s_if (d_testC (d_peek (d_eq hr.units (d_peek (d_ix (d_look 0) (d_peek (d_int)))) (d_peek (d_str)))))
            (s_one (s_ret (d_add (d_peek (d_add (d_peek (d_add (d_peek (d_str)) (d_peek (d_ix (d_look 0) (d_peek (d_int)))))) (d_peek (d_str)))) (d_peek (c_call (ok__law_number_text T) hr1 (a_cons (d_ix (d_look 0) (d_peek (d_int))) (a_nil)))))))
            (s_nil))
            (s_cons (s_set (i := 1) sc__law_term_text.nd (d_if (d_testC (d_peek (d_eq hr.units (d_peek (d_ix (d_look 0) (d_peek (d_int)))) (d_peek (d_str))))) (d_add (d_peek (d_add (d_peek (d_ix (d_look 0) (d_peek (d_int)))) (d_peek (d_str)))) (d_peek (c_call (ok__law_number_text T) hr1 (a_cons (d_ix (d_look 0) (d_peek (d_int))) (a_nil))))) (d_ix (d_look 0) (d_peek (d_int)))))
            (s_one (s_ret (d_add (d_peek (d_add (d_peek (d_add (d_look 1) (d_peek (d_str)))) (d_peek (d_join (d_peek (d_str)) (d_peek (d_give (d_lc rfl sc__law_term_text.nd (i_seq (d_ix (d_look 0) (d_peek (d_neg (d_peek (d_int)))))) (blkOk_by (own := [("_law_one", 2)]) (by first | (show blkC ["_law_term", "_law_word_here", "_law_one"] (defScope s__law_term_text) _ _ = true; decide +kernel) | kernel_rfl | rfl)) (fun _ _ _ _ _ => t_name (i := 2) sc__law_term_text.nd) (gok_name 2) (by decide) (fun _ _ _ _ _ => pts_nilT) (fun _ _ _ _ _ => c_call ih__law_term_text hr (a_cons (d_var 2) (a_nil)))))))))) (d_peek (d_str)))))))
theorem ok__law_term_text (T : Txt0 K mg C_Rule) : OkF P w K mg base 13 "_law_term_text" ["_law_term"] m__law_term_text := (okr__law_term_text T 11)
/-! ### Rule.__eq__ -/
noncomputable def b_Rule___eq__ : SS := sRet (eAnd (eBi (gIsi CS) (aCons (ePeek 1) (aCons (eC (.cls "Rule")) (aNil)))) (eOp oEq (eFld "Rule" "form" (ePeek 0)) (eFld "Rule" "form" (ePeek 1))))
noncomputable def m_Rule___eq__ : FM := fnM 2 2 b_Rule___eq__
theorem sc_Rule___eq__ : FnScope ["self", "other"] ["self", "other"] (defScope s_Rule___eq__) := ⟨rfl, rfl, rfl, by decide +kernel, rfl, by decide +kernel, by decide +kernel⟩
theorem ok_Rule___eq__ (T : Txt0 K mg C_Rule) : OkM P w K mg base 1 C_Rule "__eq__" ["self", "other"] m_Rule___eq__ := by
  refine okM_mk (nm := ["self", "other"]) T.F_Rule___eq__ sc_Rule___eq__ (fun _ _ _ _ _ _ us hl => match us, hl with | [_, _], _ => rfl) (fun f cdv A outer s H E hr => ?_)
  exact s_one (s_ret (v_and (d_peek (d_isi T.isi (T.n_isinstance) (p_cons (d_look 1) (p_cons (d_peek (d_cls (by rfl) T.c_Rule)) (p_nil))))) (v_one (d_eq hr.units (d_peek (d_fld (d_look 0) T.c_Rule T.k_Rule T.a_Rule_form)) (d_peek (d_fld (d_look 1) T.c_Rule T.k_Rule T.a_Rule_form))))))
theorem eq_Rule {X : Cx} (T : Txt0 X.K X.mg C_Rule) : EqF X 1 C_Rule CS m_Rule___eq__ := ⟨T.isi, T.nf_Rule, T.ne_Rule, T.ob_Rule, _, rfl, ok_Rule___eq__ T⟩
/-! ### law -/
noncomputable def b_law : SS := sSeq (sFor (iSeqW (eCall m__law_purses [] (aCons (eVar 0) (aCons (eC (.int 2)) (aNil))))) (asgN 1)
  (sSeq (sUnp [2, 3, 4] (eTup (aCons (eDcl (eBi gDictP (aCons (eL (lDisp (aNil))) (aNil)))) (aCons (eCall m__law_terms [] (aCons (eVar 1) (aNil))) (aCons (eCel (lDisp (aNil))) (aNil))))))
  (sSeq (sFor (iSeqW (eVar 3)) (asgN 5)
  (sSeq (sSet 6 (eCall m_rule_text [] (aCons (eMake "Rule" m_Rule___init__ [] (aCons (eVar 5) (aNil))) (aNil))))
  (sSeq (sIf (bOr (bOf (eOp oNe (ePeek 6) (eCall m__law_term_text [] (aCons (eVar 5) (aNil))))) (bOf (eOp oNe (eBi gRepr (aCons (eMeth "Rule" "term" m_Rule_term [] (eCall m_read_rule [] (aCons (eVar 6) (aNil))) (aNil)) (aNil))) (eBi gRepr (aCons (ePeek 5) (aNil))))))
  (sRet (eC (.bl false)))
  (sNil))
  (sSeq (sIf (bOf (eOp (oInK true) (ePeek 6) (ePeek 2)))
  (sAppC (eVar 4) (eVar 6))
  (sNil))
  (sPutDC (eVar 2) (ePeek 6) (eOp oAdd (eGet (ePeek 2) (ePeek 6) (eL (lDisp (aNil)))) (eL (lDisp (aCons (eVar 5) (aNil))))))))))
  (sSeq (sIf (bOf (eOp oNe (eL (lComp (iSeqW (eVar 4)) (asgN 6) (bOf (eOp oNe (eL (lComp (iSeqW (eOp oDx (ePeek 2) (ePeek 6))) (asgN 5) (bOf (eOp oNe (ePeek 5) (eOp oIx (eOp oDx (ePeek 2) (ePeek 6)) (eC (.int 0))))) (eVar 5) [5])) (eL (lDisp (aNil))))) (eVar 6) [6])) (eL (lDisp (aNil)))))
  (sRet (eC (.bl false)))
  (sNil))
  (sSeq (sPar 7 8 (.val (eCall m__law_one_of [] (aCons (eVar 1) (aCons (eVar 3) (aNil))))) (.val (eCall m__law_one_of [] (aCons (eVar 1) (aCons (eVar 3) (aNil))))))
  (sIf (bOf (eOp oNe (eOwn "Rule" CS false m_Rule___eq__ (eMake "Rule" m_Rule___init__ [] (aCons (eVar 7) (aNil))) (eMake "Rule" m_Rule___init__ [] (aCons (eVar 8) (aNil)))) (eOp oEq (eCall m_rule_text [] (aCons (eMake "Rule" m_Rule___init__ [] (aCons (eVar 7) (aNil))) (aNil))) (eCall m_rule_text [] (aCons (eMake "Rule" m_Rule___init__ [] (aCons (eVar 8) (aNil))) (aNil))))))
  (sRet (eC (.bl false)))
  (sNil)))))))
  (sRet (eC (.bl true)))
noncomputable def m_law : FM := fnM 1 9 b_law
theorem sc_law : FnScope ["_law_script", "_law_purse_here", "_law_texts", "_law_terms_here", "_law_unlike", "_law_term", "_law_text", "_law_one", "_law_other"] ["_law_script"] (defScope s_law) := ⟨rfl, rfl, rfl, by decide +kernel, rfl, by decide +kernel, by decide +kernel⟩
theorem fn_law {fa : Addr} (T : Txt0 K mg C_Rule) (hfa : mg "law" = some (.ref fa)) : ∃ fd : FuncData, (∀ (s : Shared) (u : Value), BindsTo s fd ⟨[u], []⟩ [("_law_script", u)]) ∧ ∀ base : Heap, FnD P w K mg base 30 fa fd ["_law_script"] (spM ⟨mg, K⟩ m_law 1) := by
  refine fn_end (nm := ["_law_script", "_law_purse_here", "_law_texts", "_law_terms_here", "_law_unlike", "_law_term", "_law_text", "_law_one", "_law_other"]) T.F_law hfa sc_law (fun _ _ _ _ _ _ _ => rfl) (fun base f cdv A outer s H E hr hgd => ?_)
  have hr2 : Room 2 _ := hr.mono (by decide)
  have hr3 : Room 3 _ := hr.mono (by decide)
  have hr5 : Room 5 _ := hr.mono (by decide)
  have hr13 : Room 13 _ := hr.mono (by decide)
  have hr14 : Room 14 _ := hr.mono (by decide)
  have hr15 : Room 15 _ := hr.mono (by decide)
  have hr26 : Room 26 _ := hr.mono (by decide)
  have hr29 : Room 29 _ := hr.mono (by decide)
  exact s_cons (s_for PassesOwn.never rfl (i_seqW (c_call (ok__law_purses T) hr2 (a_cons (d_var 0) (a_cons (d_int) (a_nil))))) (t_name (i := 1) sc_law.nd) (gok_name 1)
      (s_cons (s_unp (is := [2, 3, 4]) rfl (d_tup (a_cons (d_dcl (d_dictP rfl T.n_dict (p_cons (d_peek (d_give (d_lst (a_nil)))) (p_nil)))) (a_cons (c_call (ok__law_terms T) hr5 (a_cons (d_var 1) (a_nil))) (a_cons (d_cell (d_lst (a_nil))) (a_nil))))) (g_cons (i := 2) sc_law.nd (g_cons (i := 3) sc_law.nd (g_cons (i := 4) sc_law.nd (g_nil)))))
      (s_cons (s_for PassesOwn.never rfl (i_seqW (d_var 3)) (t_name (i := 5) sc_law.nd) (gok_name 5)
      (s_cons (s_set (i := 6) sc_law.nd (c_call (ok_rule_text T) hr15 (a_cons (c_make (ok_Rule___init__ T) T.c_Rule hr26 (a_cons (d_var 5) (a_nil))) (a_nil))))
      (s_cons (s_if (w_pt (w_or (d_testC (d_peek (d_ne hr.units (d_look 6) (d_peek (c_call (ok__law_term_text T) hr13 (a_cons (d_var 5) (a_nil))))))) (w_or1 (d_testC (d_peek (d_ne hr.units (d_peek (d_repr hgd (u80 hr) (T.n_repr) (p_cons (d_peek (c_meth0 (ok_Rule_term T) T.c_Rule T.k_Rule hr14 (c_call (ok_read_rule T) hr29 (a_cons (d_var 6) (a_nil))))) (p_nil)))) (d_peek (d_repr hgd (u80 hr) (T.n_repr) (p_cons (d_look 5) (p_nil))))))))))
      (s_one (s_ret (d_bl)))
      (s_nil))
      (s_cons (s_if (d_testC (d_peek (d_ninK (u1 hr) (d_look 6) (d_look 2))))
      (s_one (s_appC (d_var 4) (d_var 6)))
      (s_nil))
      (s_one (s_putDC (u1 hr) (d_add (d_peek (d_get (u1 hr) (d_look 2) (d_look 6) (d_give (d_lst (a_nil))) ⟨rfl, rfl, rfl, rfl⟩)) (d_peek (d_give (d_lst (a_cons (d_var 5) (a_nil)))))) (d_var 2) (d_look 6)))))))
      (s_cons (s_if (d_testC (d_peek (d_ne hr.units (d_peek (d_give (d_lc rfl sc_law.nd (i_seqW (d_var 4)) (blkOk_by (own := [("_law_text", 6)]) (by first | (show blkC ["_law_script", "_law_purse_here", "_law_texts", "_law_terms_here", "_law_unlike", "_law_term", "_law_text", "_law_one", "_law_other"] (defScope s_law) _ _ = true; decide +kernel) | kernel_rfl | rfl)) (fun _ _ _ _ _ => t_name (i := 6) sc_law.nd) (gok_name 6) (by decide) (fun _ _ _ _ _ => pts_oneT (d_testC (d_peek (d_ne hr.units (d_peek (d_give (d_lc rfl sc_law.nd (i_seqW (d_dx (u1 hr) (d_look 2) (d_look 6))) (blkOk_by (own := [("_law_term", 5)]) (by first | (show blkC ["_law_script", "_law_purse_here", "_law_texts", "_law_terms_here", "_law_unlike", "_law_term", "_law_text", "_law_one", "_law_other"] (defScope s_law) _ _ = true; decide +kernel) | kernel_rfl | rfl)) (fun _ _ _ _ _ => t_name (i := 5) sc_law.nd) (gok_name 5) (by decide) (fun _ _ _ _ _ => pts_oneT (d_testC (d_peek (d_ne hr.units (d_look 5) (d_peek (d_ix (d_peek (d_dx (u1 hr) (d_look 2) (d_look 6))) (d_peek (d_int)))))))) (fun _ _ _ _ _ => d_var 5)))) (d_peek (d_give (d_lst (a_nil)))))))) (fun _ _ _ _ _ => d_var 6)))) (d_peek (d_give (d_lst (a_nil)))))))
      (s_one (s_ret (d_bl)))
      (s_nil))
      (s_cons (s_par (i := 7) (j := 8) (ka := .val (eCall m__law_one_of [] (aCons (eVar 1) (aCons (eVar 3) (aNil))))) (kb := .val (eCall m__law_one_of [] (aCons (eVar 1) (aCons (eVar 3) (aNil))))) sc_law.nd (k_val (c_call (ok__law_one_of T) hr3 (a_cons (d_var 1) (a_cons (d_var 3) (a_nil))))) (k_val (c_call (ok__law_one_of T) hr3 (a_cons (d_var 1) (a_cons (d_var 3) (a_nil))))))
      (s_one (s_if (d_testC (d_peek (d_ne hr.units (d_peek (c_eq (eq_Rule T) T.c_Rule hr2 (c_make (ok_Rule___init__ T) T.c_Rule hr26 (a_cons (d_var 7) (a_nil))) (c_make (ok_Rule___init__ T) T.c_Rule hr26 (a_cons (d_var 8) (a_nil))))) (d_peek (d_eq hr.units (d_peek (c_call (ok_rule_text T) hr15 (a_cons (c_make (ok_Rule___init__ T) T.c_Rule hr26 (a_cons (d_var 7) (a_nil))) (a_nil)))) (d_peek (c_call (ok_rule_text T) hr15 (a_cons (c_make (ok_Rule___init__ T) T.c_Rule hr26 (a_cons (d_var 8) (a_nil))) (a_nil)))))))))
      (s_one (s_ret (d_bl)))
      (s_nil))))))))
      (s_one (s_ret (d_bl)))
theorem end_mk {h : Heap} {fa : Addr} (X : K.In h) (G : h.Ns mainGlobals mg) (hfa : mg "law" = some (.ref fa)) (a0 : PySem.W.nsIn K mainGlobals "Rule" = some (some (.ref C_Rule))) (T : Txt0 K mg C_Rule) :
    ∃ fd : FuncData, (∀ (s : Shared) (u : Value), BindsTo s fd ⟨[u], []⟩ [("_law_script", u)]) ∧ ∀ base : Heap, K.In base → base.Ns mainGlobals mg → FnD P w K mg base 30 fa fd ["_law_script"] (spM ⟨mg, K⟩ m_law 1) := by
  obtain ⟨fd, hb, hF⟩ := fn_law (P := P) (w := w) T hfa
  exact ⟨fd, hb, fun base _ _ => hF base⟩
end
end K94

namespace K94
open PySem L2 LW PyProof.Rows
theorem htxt {K : PySem.W.Frag} {h : Heap} {mg : PySem.Str → Option Value} (X : K.In h) (G : h.Ns mainGlobals mg) (c : SaysC hfa hfn hln hex K) : Txt0 K mg (He.ga K "Rule") where
  F_Rule___eq__ := mt_of (c.d.fact 0 (f := .meth "Rule" "__eq__") rfl) (c.d.def_ 0 (d := D0) rfl)
  F_Rule___init__ := in_of (c.d.fact 1 (f := .mkr "Rule") rfl) (c.d.def_ 1 (d := D1) rfl)
  F_Rule_term := mt_of (c.d.fact 2 (f := .meth "Rule" "term") rfl) (c.d.def_ 2 (d := D2) rfl)
  F__law_draw := ft_of X G (c.d.fact 3 (f := .glo "_law_draw") rfl) (c.d.def_ 3 (d := D3) rfl)
  F__law_mixed := ft_of X G (c.d.fact 4 (f := .glo "_law_mixed") rfl) (c.d.def_ 4 (d := D4) rfl)
  F__law_number_text := ft_of X G (c.d.fact 5 (f := .glo "_law_number_text") rfl) (c.d.def_ 5 (d := D5) rfl)
  F__law_one_of := ft_of X G (c.d.fact 6 (f := .glo "_law_one_of") rfl) (c.d.def_ 6 (d := D6) rfl)
  F__law_over := ft_of X G (c.d.fact 7 (f := .glo "_law_over") rfl) (c.d.def_ 7 (d := D7) rfl)
  F__law_purse := ft_of X G (c.d.fact 8 (f := .glo "_law_purse") rfl) (c.d.def_ 8 (d := D8) rfl)
  F__law_purses := ft_of X G (c.d.fact 9 (f := .glo "_law_purses") rfl) (c.d.def_ 9 (d := D9) rfl)
  F__law_shuffled := ft_of X G (c.d.fact 10 (f := .glo "_law_shuffled") rfl) (c.d.def_ 10 (d := D10) rfl)
  F__law_term_text := ft_of X G (c.d.fact 11 (f := .glo "_law_term_text") rfl) (c.d.def_ 11 (d := D11) rfl)
  F__law_terms := ft_of X G (c.d.fact 12 (f := .glo "_law_terms") rfl) (c.d.def_ 12 (d := D12) rfl)
  F__law_wait := ft_of X G (c.d.fact 13 (f := .glo "_law_wait") rfl) (c.d.def_ 13 (d := D13) rfl)
  F__law_word := ft_of X G (c.d.fact 14 (f := .glo "_law_word") rfl) (c.d.def_ 14 (d := D14) rfl)
  F_are_terms := ft_of X G (c.d.fact 15 (f := .glo "are_terms") rfl) (c.d.def_ 15 (d := D15) rfl)
  F_check_rule := ft_of X G (c.d.fact 16 (f := .glo "check_rule") rfl) (c.d.def_ 16 (d := D16) rfl)
  F_copied := ft_of X G (c.d.fact 17 (f := .glo "copied") rfl) (c.d.def_ 17 (d := D17) rfl)
  F_is_name := ft_of X G (c.d.fact 18 (f := .glo "is_name") rfl) (c.d.def_ 18 (d := D18) rfl)
  F_is_part := ft_of X G (c.d.fact 19 (f := .glo "is_part") rfl) (c.d.def_ 19 (d := D19) rfl)
  F_is_term := ft_of X G (c.d.fact 20 (f := .glo "is_term") rfl) (c.d.def_ 20 (d := D20) rfl)
  F_is_whole := ft_of X G (c.d.fact 21 (f := .glo "is_whole") rfl) (c.d.def_ 21 (d := D21) rfl)
  F_law := ft_of X G (c.d.fact 22 (f := .glo "law") rfl) (c.d.def_ 22 (d := D22) rfl)
  F_named_at := ft_of X G (c.d.fact 23 (f := .glo "named_at") rfl) (c.d.def_ 23 (d := D23) rfl)
  F_read_by := ft_of X G (c.d.fact 24 (f := .glo "read_by") rfl) (c.d.def_ 24 (d := D24) rfl)
  F_read_rule := ft_of X G (c.d.fact 25 (f := .glo "read_rule") rfl) (c.d.def_ 25 (d := D25) rfl)
  F_rule_in := ft_of X G (c.d.fact 26 (f := .glo "rule_in") rfl) (c.d.def_ 26 (d := D26) rfl)
  F_rule_text := ft_of X G (c.d.fact 27 (f := .glo "rule_text") rfl) (c.d.def_ 27 (d := D27) rfl)
  F_term_at := ft_of X G (c.d.fact 28 (f := .glo "term_at") rfl) (c.d.def_ 28 (d := D28) rfl)
  F_term_text := ft_of X G (c.d.fact 29 (f := .glo "term_text") rfl) (c.d.def_ 29 (d := D29) rfl)
  F_terms_at := ft_of X G (c.d.fact 30 (f := .glo "terms_at") rfl) (c.d.def_ 30 (d := D30) rfl)
  F_whole_of := ft_of X G (c.d.fact 31 (f := .glo "whole_of") rfl) (c.d.def_ 31 (d := D31) rfl)
  F_with_inside := ft_of X G (c.d.fact 32 (f := .glo "with_inside") rfl) (c.d.def_ 32 (d := D32) rfl)
  a_Rule_form := He.noat_ok (c.d.fact 33 (f := .noat "Rule" "form") rfl)
  c_Rule := He.glo_ok X G (c.d.fact 34 (f := .glo "Rule") rfl)
  cx_LeafError := ⟨_, He.glo_ok X G (c.d.fact 35 (f := .glo "LeafError") rfl)⟩
  em := em_nil
  g_LETTERS := He.str_ok X G (c.d.fact 36 (f := .str "LETTERS" "abcdefghijklmnopqrstuvwxyz") rfl)
  isi := (isi1_of (He.glo_ok X G (c.d.fact 34 (f := .glo "Rule") rfl)) (andL_ok (i := 0) c.ex rfl))
  k_Rule := He.cls_ok (c.d.fact 37 (f := .cls "Rule") rfl)
  n_abs := He.free_ok X G (c.d.fact 38 (f := .free "abs") rfl)
  n_bool := He.free_ok X G (c.d.fact 39 (f := .free "bool") rfl)
  n_dict := He.free_ok X G (c.d.fact 40 (f := .free "dict") rfl)
  n_int := He.free_ok X G (c.d.fact 41 (f := .free "int") rfl)
  n_isinstance := He.free_ok X G (c.d.fact 42 (f := .free "isinstance") rfl)
  n_len := He.free_ok X G (c.d.fact 43 (f := .free "len") rfl)
  n_list := He.free_ok X G (c.d.fact 44 (f := .free "list") rfl)
  n_max := He.free_ok X G (c.d.fact 45 (f := .free "max") rfl)
  n_min := He.free_ok X G (c.d.fact 46 (f := .free "min") rfl)
  n_range := He.free_ok X G (c.d.fact 47 (f := .free "range") rfl)
  n_repr := He.free_ok X G (c.d.fact 48 (f := .free "repr") rfl)
  n_str := He.free_ok X G (c.d.fact 49 (f := .free "str") rfl)
  n_sum := He.free_ok X G (c.d.fact 50 (f := .free "sum") rfl)
  n_tuple := He.free_ok X G (c.d.fact 51 (f := .free "tuple") rfl)
  ne_Rule := eqB_ok (andL_ok (i := 1) c.ex rfl)
  nf_Rule := nf_of (fun x hx => by
      rcases List.mem_cons.mp hx with rfl | hx
      · exact He.glo_ok X G (c.d.fact 34 (f := .glo "Rule") rfl)
      · cases hx) (andL_ok (i := 2) c.ex rfl)
  ob_Rule := eqB_ok (andL_ok (i := 3) c.ex rfl)
theorem hend {w : World} {K : PySem.W.Frag} {h : Heap} {mg : PySem.Str → Option Value} {fa : Addr} (X : K.In h) (G : h.Ns mainGlobals mg) (hmg : mg "law" = some (.ref fa)) (c : SaysC hfa hfn hln hex K) : ∃ fd : FuncData, (∀ (s : Shared) (u : Value), BindsTo s fd ⟨[u], []⟩ [("_law_script", u)]) ∧ ∀ base : Heap, K.In base → base.Ns mainGlobals mg → FnD HR.prog w K mg base 30 fa fd ["_law_script"] (spM ⟨mg, K⟩ m_law 1) := end_mk (P := HR.prog) (w := w) X G hmg (He.eqO_ok (c.d.fact 34 (f := .glo "Rule") rfl)) (htxt X G c)
end K94
section
open PySem PySem.W PyProof.Rows
set_option maxRecDepth 100000 in
set_option maxHeartbeats 0 in
theorem K94.hmain (plain : ∀ ns : List Int, ns.length ≤ 63 → ∃ st1, K94.m_law [.fro (ns.map LW.D.int)] [] = some (.bl true, st1)) : PySem.Challenge.rw_leafwaits_k94_whole_texts_of_all_small_t.Holds := by
  w_on
  o_law
  refine HandSHeadRun.head_any (r := OpenLaw.row PySem.Challenge.rw_leafwaits_k94_whole_texts_of_all_small_t) (q := view (OpenLaw.row PySem.Challenge.rw_leafwaits_k94_whole_texts_of_all_small_t).prog [40]) (H := K94.hk) (ob := K94.hob) (M := 12000) (loose := K94.hnames) (d := HandSHeadRun.topDef (OpenLaw.row PySem.Challenge.rw_leafwaits_k94_whole_texts_of_all_small_t).prog 40) (kwd := []) K94.hob_eq
    (by kernel_rfl) (fun s => by kernel_rfl) K94.hrun (by kernel_rfl) (by kernel_rfl) (by kernel_rfl) (by rfl) (by first | assumption | decide +kernel) (by decide +kernel) ⟨rfl, rfl, rfl, rfl, rfl, by decide +kernel⟩ ?hw ?hc
  case hw => w_witness2
  case hc =>
    refine LW.walk_DE (l := PySem.Challenge.rw_leafwaits_k94_whole_texts_of_all_small_t) (n := 63) (k := 30) (x := "_law_script") (g := K94.m_law) rfl (by decide) (by kernel_rfl) ⟨rfl, by decide, by decide⟩ ?F plain
    intro w mg fa h Y G hmg0
    obtain ⟨K, KX, c⟩ := Y
    have hmg : mg ("law" : PySem.Str) = some (.ref fa) := by
      have e : (HandSHeadRun.topDef (OpenLaw.row PySem.Challenge.rw_leafwaits_k94_whole_texts_of_all_small_t).prog 40).name = ("law" : PySem.Str) := by kernel_rfl
      rw [← e]
      exact hmg0
    exact ⟨K, KX, K94.hend KX G hmg c⟩
end

namespace K94
open PySem L2 LW
local macro_rules | `(tactic| bv_omega) => `(tactic| (repeat (first | with_reducible first | refine z_var (by with_unfolding_all rfl) ?_ | refine z_pk (by with_unfolding_all rfl) ?_ | refine z_pkO (by with_unfolding_all rfl) ?_ | refine z_retO (by with_unfolding_all rfl) ?_ | refine z_dictO (by with_unfolding_all rfl) ?_ | refine z_c ?_ | refine z_op ?_ | refine z_nil ?_ | refine z_cons ?_ | refine z_tup ?_ | refine z_lst ?_ | refine z_L ?_ | refine z_bi ?_ | refine z_call ?_ | refine z_meth ?_ | refine z_prop ?_ | refine z_fld ?_ | refine z_make ?_ | refine z_not ?_ | refine z_neg ?_ | refine z_bits ?_ | refine t_of ?_ | refine t_not ?_ | refine z_slN ?_ | refine z_oN ?_ | refine z_oS ?_ | refine z_snil ?_ | refine z_seq ?_ | refine z_set ?_ | refine z_own ?_ | refine z_ret ?_ | refine z_retC ?_ | refine z_drop ?_ | refine z_frz ?_ | refine z_app ?_ | refine z_appC ?_ | refine z_putC ?_ | refine z_for ?_ | refine z_lc ?_ | refine z_yes ?_ | refine z_kv ?_ | refine z_ko ?_ | refine z_par ?_ | refine z_unp ?_ | refine z_sfld ?_ | refine z_rg1 ?_ | refine z_rg2 ?_ | refine z_rg3 ?_ | refine z_and ?_ | refine z_or ?_ | refine z_eif ?_ | refine t_and ?_ | refine t_or ?_ | refine z_sif ?_ | refine u_add ?_ | refine u_sub ?_ | refine u_lt ?_ | refine u_le ?_ | refine u_gt ?_ | refine u_ge ?_ | refine u_isN ?_ | refine u_notN ?_ | refine z_par3 ?_ | refine z_dcl ?_ | refine z_cel ?_ | refine z_putDC ?_ | refine z_clrC ?_ | refine z_ownD ?_ | refine z_lenSN ?_ | refine z_D ?_ | refine z_dComp ?_ | refine z_lc2 ?_ | refine z_sn ?_ | refine z_makeC ?_ | refine z_methC ?_ | refine z_fldC ?_ | refine z_sfldC ?_ | refine z_xSet ?_ | refine z_methX ?_ | refine z_methCX ?_ | refine z_xIfE ?_ | refine z_xEL ?_ | refine z_xPar2 (by decide) ?_ | refine z_kD2 ?_ | refine z_par2 (by decide) ?_ | refine z_d0 ?_ | refine z_xBare ?_ | refine z_xFrz ?_ | refine z_xFor ?_ | refine z_sortIt ?_ | refine z_lenO ?_ | refine z_xSeq ?_ | refine z_xIf ?_ | refine z_xRaise ?_ | refine z_xL ?_ | refine z_xNil ?_ | refine z_xDrop ?_ | refine z_xRet ?_ | refine z_eCallX ?_ | refine z_sTry ?_ | refine z_DT ?_ | refine z_t0 ?_ | refine z_Td ?_ | refine z_ownT ?_ | refine z_putT ?_ | refine z_frzT ?_ | refine z_par3T ?_ | refine z_toT ?_ | refine z_join ?_ | refine z_sw3 ?_ | (with_reducible refine u_mul ?_ ?_; next => first | exact mulC_r (by decide) (by decide) | exact mulC_l (by decide) (by decide) | exact mulC_r (by omega) (by omega) | exact mulC_l (by omega) (by omega)) | (with_reducible refine u_mod ?_ ?_; next => first | decide | assumption | omega) | (with_reducible refine u_div ?_ ?_; next => first | exact divC_s (by decide) (by decide) | exact divC_s (by omega) (by omega)))))
def mixed (a b c : Int) : Int := ((((a * 69069 + 104729 * b * b + 7919 * c + b) % 2147483647) * ((a * 69069 + 104729 * b * b + 7919 * c + b) % 2147483647) + 40503) % 2147483629) * 48271 % 2147483587
theorem mixed_ok {a b c : Int} {st : Sto} (hb : 0 ≤ b) (hb' : b < 2 ^ 60) : m__law_mixed [.int a, .int b, .int c] st = some (.int (mixed a b c), st) := by
  refine Ok.eq (z_fn rfl ?_)
  unfold b__law_mixed
  bv_omega
  exact ⟨rfl, rfl⟩
theorem mixed_pos (a b c : Int) : 0 ≤ mixed a b c := by unfold mixed; omega
/-- a purse as a cell holds it -/
def Pu (n : Nat) (l : List D) : Prop := ∃ a b c e : Int, l = [.int a, .int b, .int c, .int e] ∧ 0 ≤ a ∧ 0 ≤ c ∧ c ≤ n
theorem Pu.mono {n m : Nat} {l : List D} (h : Pu n l) (hm : n ≤ m) : Pu m l := by
  obtain ⟨a, b, c, e, h1, h2, h3, h4⟩ := h
  exact ⟨a, b, c, e, h1, h2, h3, by omega⟩
theorem bits_le {m : Int} (h0 : 0 < m) (h : m < 2 ^ 100) : Builtin.Int.intBits m ≤ 100 := by
  unfold Builtin.Int.intBits
  have hz : ¬ (m == 0) = true := by simp; omega
  rw [if_neg hz]
  have := (Nat.log2_lt (n := m.natAbs) (k := 100) (by omega)).mpr (by omega)
  omega
theorem set_get {l l' : List D} {st : Sto} {k : Nat} (h : st[k]? = some l) : (st.set k l')[k]? = some l' := by
  rw [List.getElem?_set_self (List.getElem?_eq_some_iff.mp h).1]
theorem set_self {l : List D} {st : Sto} {k : Nat} (h : st[k]? = some l) : st.set k l = st := by
  obtain ⟨h1, rfl⟩ := List.getElem?_eq_some_iff.mp h
  exact List.set_getElem_self h1
theorem draw_ok {n k : Nat} {l : List D} {st : Sto} {m : Int} (hk : st[k]? = some l) (P : Pu n l) (hn : n < 2 ^ 50) (h0 : 0 < m) (hm : m < 2 ^ 100) :
    Ok (m__law_draw [.cell k, .int m] st) fun d s => ∃ r l', d = .int r ∧ s = st.set k l' ∧ Pu (n + 4) l' ∧ 0 ≤ r ∧ r < m := by
  obtain ⟨a, b, c, e, rfl, ha, hc, hcn⟩ := P
  refine z_fn rfl ?_
  unfold b__law_draw
  bv_omega
  refine u_ixC (lcG_of hk rfl) rfl ?_
  bv_omega
  refine b_dec (fun hp => ?_) (fun hp => ?_)
  · bv_omega
    refine u_ixC (lcG_of hk rfl) rfl ?_
    bv_omega
    refine u_ixC (lcG_of hk rfl) rfl ?_
    bv_omega
    refine ⟨_, 0, lcG_of hk rfl, rfl, ?_⟩
    bv_omega
    exact ⟨_, _, rfl, rfl, ⟨a / m, b, c, e, rfl, Int.ediv_nonneg ha (by omega), hc, by omega⟩, Int.emod_nonneg _ (by omega), Int.emod_lt_of_pos _ h0⟩
  · bv_omega
    have hb := bits_le h0 hm
    have hj : (1 + (Builtin.Int.intBits m : Int) / 28).toNat ≤ 4 := by omega
    refine ⟨_, rfl, inR_t (by omega) (by omega), ?_⟩
    refine (loop_inv (fun i env s => ∃ (c' f : Int) (p : Sl), env = [.val (.cell k), .val (.int m), .un, .val (.int f), p] ∧ s = st.set k [.int a, .int b, .int c', .int e] ∧ c' = c + i ∧ 0 ≤ f) _ 0 _ _
      ⟨c, 0, .un, rfl, (set_self hk).symm, by omega, by omega⟩ ?_ (fun _ _ _ => rfl)).mono ?_
    · rintro i x e0 s hx ⟨c', f, p, rfl, rfl, rfl, hf⟩
      refine ⟨rfl, _, rfl, ?_⟩
      have hi : i < 4 := by
        have := (List.getElem?_eq_some_iff.mp hx).1
        rw [rangeD_len] at this
        omega
      have hk' := set_get (l' := [.int a, .int b, .int (c + ((0 + i : Nat) : Int)), .int e]) hk
      bv_omega
      refine u_ixC (lcG_of hk' rfl) rfl ?_
      bv_omega
      refine ⟨_, 2, lcG_of hk' rfl, rfl, ?_⟩
      rw [List.set_set]
      have hk2 : ∀ y, (st.set k ([D.int a, .int b, .int (c + ((0 + i : Nat) : Int)), .int e].set 2 (.int y)))[k]? = some [D.int a, .int b, .int y, .int e] := fun y => set_get hk
      bv_omega
      refine u_ixC (lcG_of (hk2 _) rfl) rfl ?_
      bv_omega
      refine u_ixC (lcG_of (hk2 _) rfl) rfl ?_
      bv_omega
      refine u_ixC (lcG_of (hk2 _) rfl) rfl ?_
      bv_omega
      refine Ok.use (mixed_ok (by omega) (by omega)) ?_
      bv_omega
      refine ⟨_, .inl rfl, _, _, _, rfl, rfl, by omega, ?_⟩
      have := mixed_pos b (c + ((0 + i : Nat) : Int) + 1) e
      omega
    · rintro o s ⟨e', rfl, c', f, p, rfl, rfl, rfl, hf⟩
      bv_omega
      refine ⟨_, _, rfl, rfl, ⟨a, b, _, e, rfl, ha, by omega, ?_⟩, Int.emod_nonneg _ (by omega), Int.emod_lt_of_pos _ h0⟩
      rw [rangeD_len]
      omega
def Pc (k n : Nat) (st : Sto) : Prop := ∃ l, st[k]? = some l ∧ Pu n l
def Keep (k : Nat) (st s : Sto) : Prop := ∀ (j : Nat) (x : List D), j ≠ k → st[j]? = some x → s[j]? = some x
theorem Keep.refl {k : Nat} {st : Sto} : Keep k st st := fun _ _ _ h => h
theorem Keep.trans {k : Nat} {a b c : Sto} (h : Keep k a b) (h' : Keep k b c) : Keep k a c := fun j x n e => h' j x n (h j x n e)
theorem Keep.app {k : Nat} {st : Sto} {ys : Sto} : Keep k st (st ++ ys) := fun j x _ e => by
  rw [List.getElem?_append_left (List.getElem?_eq_some_iff.mp e).1]
  exact e
theorem Pc.mono {k n m : Nat} {st : Sto} (h : Pc k n st) (hm : n ≤ m) : Pc k m st := by
  obtain ⟨l, e, p⟩ := h
  exact ⟨l, e, p.mono hm⟩
theorem Pc.app {k n : Nat} {st : Sto} {ys : Sto} (h : Pc k n st) : Pc k n (st ++ ys) := by
  obtain ⟨l, e, p⟩ := h
  exact ⟨l, by rw [List.getElem?_append_left (List.getElem?_eq_some_iff.mp e).1]; exact e, p⟩
theorem Pc.lt {k n : Nat} {st : Sto} (h : Pc k n st) : k < st.length := by
  obtain ⟨l, e, p⟩ := h
  exact (List.getElem?_eq_some_iff.mp e).1
theorem Keep.len {k n : Nat} {st s : Sto} (h : Keep k st s) (P : Pc k n s) : st.length ≤ s.length := by
  by_cases hl : st.length ≤ s.length
  · exact hl
  · have hk := P.lt
    have e := h (st.length - 1) st[st.length - 1] (by omega) (List.getElem?_eq_getElem _)
    have := (List.getElem?_eq_some_iff.mp e).1
    omega
theorem drawK {n k : Nat} {st : Sto} {m : Int} (P : Pc k n st) (hn : n < 2 ^ 50) (h0 : 0 < m) (hm : m < 2 ^ 100) {Q : D → Sto → Prop} (h : ∀ r s, Pc k (n + 4) s → Keep k st s → 0 ≤ r → r < m → Q (.int r) s) : Ok (m__law_draw [.cell k, .int m] st) Q := by
  obtain ⟨l, e, p⟩ := P
  refine (draw_ok e p hn h0 hm).mono ?_
  rintro d s ⟨r, l', rfl, rfl, p', h1, h2⟩
  refine h r _ ⟨l', set_get e, p'⟩ (fun j x nj ej => ?_) h1 h2
  rw [List.getElem?_set_ne (fun z => nj z.symm)]
  exact ej
theorem atI_in {xs : List D} {r : Int} (h0 : 0 ≤ r) (h1 : r < xs.length) : ∃ d, atI xs r = some d ∧ xs[r.toNat]? = some d := by
  refine ⟨xs[r.toNat]'(by omega), ?_, List.getElem?_eq_getElem _⟩
  unfold atI ixN
  rw [if_pos h0, if_pos h1]
  exact List.getElem?_eq_getElem (by omega)
theorem oneK {n k : Nat} {st : Sto} {xs : List D} (P : Pc k n st) (hn : n < 2 ^ 50) (h0 : 0 < xs.length) (hm : xs.length < 1000) {Q : D → Sto → Prop} (h : ∀ d s, Pc k (n + 4) s → Keep k st s → d ∈ xs → Q d s) : Ok (m__law_one_of [.cell k, .lst xs] st) Q := by
  refine z_fn rfl ?_
  unfold b__law_one_of
  bv_omega
  refine u_now rfl ?_
  bv_omega
  refine drawK P hn (m := (xs.length : Int)) (by omega) (by omega) fun r s P' K' h1 h2 => ?_
  obtain ⟨d, e, e'⟩ := atI_in h1 h2
  refine u_ixL e ?_
  exact h d s P' K' (List.mem_of_getElem? e')
theorem cutD_map {ns : List Int} {lo hi : Option Int} : cutD (ns.map D.int) lo hi = (cutD ns lo hi).map D.int := by
  unfold cutD
  rw [List.length_map, List.map_take, List.map_drop]
theorem gSum_cut {ns : List Int} {lo hi : Option Int} {st : Sto} : gSum [.lst (cutD (ns.map D.int) lo hi)] st = some (.int (cutD ns lo hi).sum) := by
  have e : lstI st (.lst (cutD (ns.map D.int) lo hi)) = some (cutD ns lo hi) := by
    rw [cutD_map]
    exact intsOf_map _
  unfold gSum
  dsimp only
  rw [e]
theorem purseK {st : Sto} {ns : List Int} {i : Int} {Q : D → Sto → Prop} (h : ∀ l, Pu 0 l → Q (.cell st.length) (st ++ [l])) : Ok (m__law_purse [.fro (ns.map D.int), .int i] st) Q := by
  refine z_fn rfl ?_
  unfold b__law_purse
  bv_omega
  refine u_now rfl ?_
  bv_omega
  refine u_now gSum_cut ?_
  bv_omega
  refine u_pow (by decide +kernel) ?_
  bv_omega
  refine u_now rfl ?_
  bv_omega
  refine u_pow (by decide +kernel) ?_
  bv_omega
  refine u_pow (by decide +kernel) ?_
  refine u_mod (by decide +kernel) ?_
  bv_omega
  refine ⟨by simp, ?_⟩
  refine h _ ⟨_, _, _, _, rfl, Int.emod_nonneg _ (by decide +kernel), by decide, by decide⟩
theorem pursesK {st : Sto} {ns : List Int} {Q : D → Sto → Prop} (h : ∀ (ks : List Nat) s, (∀ k ∈ ks, Pc k 0 s) → ks.Pairwise (· ≠ ·) → Q (.lst (ks.map D.cell)) s) : Ok (m__law_purses [.fro (ns.map D.int), .int 2] st) Q := by
  refine z_fn rfl ?_
  unfold b__law_purses
  bv_omega
  refine u_now rfl ?_
  bv_omega
  refine u_now rfl ?_
  bv_omega
  refine u_now rfl ?_
  bv_omega
  refine ⟨_, rfl, inR_t ?_ ?_, ?_, ?_⟩
  · split <;> split <;> omega
  · split <;> split <;> omega
  · rw [rangeD_len]
    split <;> split <;> omega
  · refine (comp_inv (fun acc s => ∃ ks : List Nat, acc = ks.map D.cell ∧ (∀ k ∈ ks, Pc k 0 s) ∧ ks.Pairwise (· ≠ ·)) _ [] _ ⟨[], rfl, (fun k hk => by cases hk), List.Pairwise.nil⟩ ?_ fun _ _ _ => rfl).mono ?_
    · rintro x hx acc s ⟨ks, rfl, hP, hw⟩
      obtain ⟨i, _, rfl⟩ := List.mem_map.mp hx
      refine ⟨_, rfl, ?_⟩
      bv_omega
      refine b_t rfl ?_
      bv_omega
      refine purseK fun l hl => ?_
      refine ⟨ks ++ [s.length], by rw [List.map_append]; rfl, fun k hk => ?_, List.pairwise_append.mpr ⟨hw, List.pairwise_singleton _ _, fun a ha b hb => ?_⟩⟩
      · rcases List.mem_append.mp hk with hk | hk
        · exact (hP k hk).app
        · cases List.mem_singleton.mp hk
          exact ⟨l, by rw [List.getElem?_append_right (Nat.le_refl _), Nat.sub_self]; rfl, hl⟩
      · cases List.mem_singleton.mp hb
        have := (hP a ha).lt
        omega
    · rintro ys s ⟨ks, e, hP, hw⟩
      cases e
      exact h ks s hP hw
end K94

namespace LW
open PySem L2
theorem chn_ok {p q : Int → Int → Bool} {fa fb fc : SE} {env : LW.Env} {st : Sto} {Q : D → Sto → Prop} (h : Ok (fa env st) fun x s1 => AsI x fun i => Ok (fb env s1) fun y s2 => AsI y fun j => p i j = true ∧ Ok (fc env s2) fun z s3 => AsI z fun k => Q (.bl (q j k)) s3) : Ok (eChn p q fa fb fc env st) Q := by
  obtain ⟨x, s1, e1, h⟩ := h
  obtain ⟨i, rfl, y, s2, e2, h⟩ := h.of
  obtain ⟨j, rfl, hp, z, s3, e3, h⟩ := h.of
  obtain ⟨k, rfl, h⟩ := h.of
  refine ⟨_, s3, ?_, h⟩
  unfold eChn
  rw [e1]
  dsimp only
  rw [e2]
  dsimp only
  rw [if_pos hp, e3]
theorem mapO_some {α β : Type} {f : α → Option β} : ∀ {xs : List α}, (∀ x ∈ xs, ∃ y, f x = some y) → ∃ ys, mapO f xs = some ys ∧ ys.length = xs.length
  | [], _ => ⟨[], rfl, rfl⟩
  | x :: xs, h => by
    obtain ⟨y, e⟩ := h x (by simp)
    obtain ⟨ys, e2, l⟩ := mapO_some (xs := xs) fun z hz => h z (by simp [hz])
    refine ⟨y :: ys, ?_, by simp [l]⟩
    unfold mapO
    rw [e]
    dsimp only
    rw [e2]
theorem comp_z {α : Type} {chk : Sto → Bool} {asg : D → LW.Env → Option LW.Env} {elt : SE} {env0 : LW.Env} {st : Sto} (g h : α → D) (hc : chk st = true) : ∀ (Z : List α), (∀ z ∈ Z, ∃ e1, asg (g z) env0 = some e1 ∧ Ok (elt e1 st) fun y s => y = h z ∧ s = st) → compM chk asg bYes elt env0 (Z.map g) st = some (Z.map h, st)
  | [], _ => by
    show compM chk asg bYes elt env0 [] st = _
    unfold compM
    rw [if_pos hc]
    rfl
  | z :: Z, H => by
    obtain ⟨e1, a, k⟩ := H z (by simp)
    have ih := comp_z g h hc Z fun y hy => H y (by simp [hy])
    show compM chk asg bYes elt env0 (g z :: Z.map g) st = _
    unfold compM
    rw [if_pos hc, a]
    dsimp only
    rw [show bYes e1 st = some (true, st) from rfl]
    dsimp only
    rw [k.eq]
    dsimp only
    rw [ih]
    rfl
/-- a comprehension that lets nothing through -/
theorem comp_none {chk : Sto → Bool} {asg : D → LW.Env → Option LW.Env} {cond : SB} {elt : SE} {env0 : LW.Env} {st : Sto} (hc : chk st = true) (xs : List D) (h : ∀ x ∈ xs, ∃ e1, asg x env0 = some e1 ∧ Ok (cond e1 st) fun b s => b = false ∧ s = st) : compM chk asg cond elt env0 xs st = some ([], st) := by
  have := comp_map (elt := elt) (fun _ => false) id hc xs fun x hx => by
    obtain ⟨e1, a, k⟩ := h x hx
    exact ⟨e1, a, k.eq, fun z => by cases z⟩
  rw [this]
  simp
/-- a comprehension over all -/
theorem comp_yes {chk : Sto → Bool} {asg : D → LW.Env → Option LW.Env} {elt : SE} {env0 : LW.Env} {st : Sto} (f : D → D) (hc : chk st = true) (xs : List D) (h : ∀ x ∈ xs, ∃ e1, asg x env0 = some e1 ∧ Ok (elt e1 st) fun y s => y = f x ∧ s = st) : compM chk asg bYes elt env0 xs st = some (xs.map f, st) := by
  have := comp_z (chk := chk) (asg := asg) (elt := elt) (env0 := env0) (st := st) id f hc xs h
  rwa [List.map_id] at this
section
variable {s : Sto} {Q : D → Prop} {x y : D}
theorem u_eqNil {ps : List PyData} (hx : toPy 60 s x = some (.list ps)) (q : Q (.bl (decide (ps = [])))) : Od (oEq x (.lst []) s) Q := by
  refine u_eq hx rfl ?_
  have e : PyData.eqv (.list ps) (.list []) = decide (ps = []) := by
    cases ps with
    | nil => rfl
    | cons p ps => rfl
  rw [e]
  exact q
theorem u_neNil {ps : List PyData} (hx : toPy 60 s x = some (.list ps)) (q : Q (.bl (!decide (ps = [])))) : Od (oNe x (.lst []) s) Q := by
  refine u_ne hx rfl ?_
  have e : PyData.eqv (.list ps) (.list []) = decide (ps = []) := by
    cases ps with
    | nil => rfl
    | cons p ps => rfl
  rw [e]
  exact q
theorem eqv_int {i j : Int} : PyData.eqv (.int i) (.int j) = decide (i = j) := by
  by_cases h : i = j
  · subst h; rw [decide_eq_true rfl]; show (i == i) = true; exact beq_self_eq_true i
  · rw [decide_eq_false h]; show (i == j) = false; exact beq_eq_false_iff_ne.mpr h
theorem eqv_str {a b : Str} : PyData.eqv (.str a) (.str b) = decide (a = b) := by
  by_cases h : a = b
  · subst h; rw [decide_eq_true rfl]; show (a == a) = true; exact beq_self_eq_true a
  · rw [decide_eq_false h]; show (a == b) = false; exact beq_eq_false_iff_ne.mpr h
theorem u_eqW {a b : Str} (ha : PyData.strOk a = true) (hb : PyData.strOk b = true) (q : Q (.bl (decide (a = b)))) : Od (oEq (.str a) (.str b) s) Q := by
  refine u_eq (py_str ha) (py_str hb) ?_
  rw [eqv_str]
  exact q
theorem u_neW {a b : Str} (ha : PyData.strOk a = true) (hb : PyData.strOk b = true) (q : Q (.bl (!decide (a = b)))) : Od (oNe (.str a) (.str b) s) Q := by
  refine u_ne (py_str ha) (py_str hb) ?_
  rw [eqv_str]
  exact q
end
section
variable {chk : Sto → Bool} {asg : D → Env → Option Env} {body : SS} {env e1 : Env} {st : Sto} {x : D} {xs : List D} {Q : Out → Sto → Prop}
theorem z_loopN (c : chk st = true) (h : Q (.nx env) st) : Ok (loopM chk asg body [] env st) Q := ⟨_, st, by unfold loopM; rw [if_pos c], h⟩
theorem z_loopC (c : chk st = true) (a : asg x env = some e1) (h : Ok (body e1 st) fun o s => match o with
    | .nx e2 => Ok (loopM chk asg body xs e2 s) Q
    | .ct e2 => Ok (loopM chk asg body xs e2 s) Q
    | .bk e2 => Q (.nx e2) s
    | .rt d => Q (.rt d) s) : Ok (loopM chk asg body (x :: xs) env st) Q := by
  obtain ⟨o, s, e, h⟩ := h
  cases o with
  | nx e2 =>
    obtain ⟨o2, s2, e3, q⟩ := h
    exact ⟨o2, s2, by unfold loopM; rw [if_pos c, a]; dsimp only; rw [e]; exact e3, q⟩
  | ct e2 =>
    obtain ⟨o2, s2, e3, q⟩ := h
    exact ⟨o2, s2, by unfold loopM; rw [if_pos c, a]; dsimp only; rw [e]; exact e3, q⟩
  | bk e2 => exact ⟨_, s, by unfold loopM; rw [if_pos c, a]; dsimp only; rw [e], h⟩
  | rt d => exact ⟨_, s, by unfold loopM; rw [if_pos c, a]; dsimp only; rw [e], h⟩
end
end LW
namespace K94
open PySem L2 LW
local macro_rules | `(tactic| bv_omega) => `(tactic| (repeat (first | with_reducible first | refine z_var (by with_unfolding_all rfl) ?_ | refine z_pk (by with_unfolding_all rfl) ?_ | refine z_pkO (by with_unfolding_all rfl) ?_ | refine z_retO (by with_unfolding_all rfl) ?_ | refine z_dictO (by with_unfolding_all rfl) ?_ | refine z_c ?_ | refine z_op ?_ | refine z_nil ?_ | refine z_cons ?_ | refine z_tup ?_ | refine z_lst ?_ | refine z_L ?_ | refine z_bi ?_ | refine z_call ?_ | refine z_meth ?_ | refine z_prop ?_ | refine z_fld ?_ | refine z_make ?_ | refine z_not ?_ | refine z_neg ?_ | refine z_bits ?_ | refine t_of ?_ | refine t_not ?_ | refine z_slN ?_ | refine z_oN ?_ | refine z_oS ?_ | refine z_snil ?_ | refine z_seq ?_ | refine z_set ?_ | refine z_own ?_ | refine z_ret ?_ | refine z_retC ?_ | refine z_drop ?_ | refine z_frz ?_ | refine z_app ?_ | refine z_appC ?_ | refine z_putC ?_ | refine z_for ?_ | refine z_lc ?_ | refine z_yes ?_ | refine z_kv ?_ | refine z_ko ?_ | refine z_par ?_ | refine z_unp ?_ | refine z_sfld ?_ | refine z_rg1 ?_ | refine z_rg2 ?_ | refine z_rg3 ?_ | refine z_and ?_ | refine z_or ?_ | refine z_eif ?_ | refine t_and ?_ | refine t_or ?_ | refine z_sif ?_ | refine u_add ?_ | refine u_sub ?_ | refine u_lt ?_ | refine u_le ?_ | refine u_gt ?_ | refine u_ge ?_ | refine u_isN ?_ | refine u_notN ?_ | refine z_par3 ?_ | refine z_dcl ?_ | refine z_cel ?_ | refine z_putDC ?_ | refine z_clrC ?_ | refine z_ownD ?_ | refine z_lenSN ?_ | refine z_D ?_ | refine z_dComp ?_ | refine z_lc2 ?_ | refine z_sn ?_ | refine z_makeC ?_ | refine z_methC ?_ | refine z_fldC ?_ | refine z_sfldC ?_ | refine z_xSet ?_ | refine z_methX ?_ | refine z_methCX ?_ | refine z_xIfE ?_ | refine z_xEL ?_ | refine z_xPar2 (by decide) ?_ | refine z_kD2 ?_ | refine z_par2 (by decide) ?_ | refine z_d0 ?_ | refine z_xBare ?_ | refine z_xFrz ?_ | refine z_xFor ?_ | refine z_sortIt ?_ | refine z_lenO ?_ | refine z_xSeq ?_ | refine z_xIf ?_ | refine z_xRaise ?_ | refine z_xL ?_ | refine z_xNil ?_ | refine z_xDrop ?_ | refine z_xRet ?_ | refine z_eCallX ?_ | refine z_sTry ?_ | refine z_DT ?_ | refine z_t0 ?_ | refine z_Td ?_ | refine z_ownT ?_ | refine z_putT ?_ | refine z_frzT ?_ | refine z_par3T ?_ | refine z_toT ?_ | refine z_join ?_ | refine z_sw3 ?_ | (with_reducible refine u_mul ?_ ?_; next => first | exact mulC_r (by decide) (by decide) | exact mulC_l (by decide) (by decide) | exact mulC_r (by omega) (by omega) | exact mulC_l (by omega) (by omega)) | (with_reducible refine u_mod ?_ ?_; next => first | decide | assumption | omega) | (with_reducible refine u_div ?_ ?_; next => first | exact divC_s (by decide) (by decide) | exact divC_s (by omega) (by omega)))))
abbrev letters : Str := "abcdefghijklmnopqrstuvwxyz"
/-- a name: one to eight letters -/
structure Nm (z : Str) : Prop where
  lo : 1 ≤ z.length
  hi : z.length ≤ 8
  abc : ∀ c ∈ z.cps.toList, c ∈ letters.cps.toList
theorem letter_lt : ∀ c ∈ letters.cps.toList, c < 0x110000 := by decide +kernel
theorem Nm.ok {z : Str} (h : Nm z) : PyData.strOk z = true := by
  unfold PyData.strOk
  rw [← Array.all_toList, List.all_eq_true]
  intro c hc
  exact decide_eq_true (letter_lt c (h.abc c hc))
theorem whole_ok {i : Int} {st : Sto} : m_is_whole [.int i] st = some (.bl true, st) := rfl
theorem name_ok {z : Str} {st : Sto} (h : Nm z) : m_is_name [.str z] st = some (.bl true, st) := by
  have h1 := h.lo
  have h2 := h.hi
  refine Ok.eq (z_fn rfl ?_)
  unfold b_is_name
  bv_omega
  refine u_now rfl ?_
  refine b_f rfl ?_
  bv_omega
  refine u_now (a := .int z.length) (by unfold gLen; exact if_pos (by omega)) ?_
  bv_omega
  refine b_f (decide_eq_false (by omega)) ?_
  bv_omega
  refine u_now (a := .int z.length) (by unfold gLen; exact if_pos (by omega)) ?_
  bv_omega
  refine b_f (decide_eq_false (by omega)) ?_
  bv_omega
  refine z_sgn ?_
  bv_omega
  refine ⟨z, rfl, ?_, ?_⟩
  · show (signsD z).length ≤ 1000000
    unfold signsD
    rw [List.length_map]
    have : z.cps.toList.length = z.length := Array.length_toList
    omega
  · refine Ok.use (comp_none rfl _ fun x hx => ?_) ?_
    · obtain ⟨c, hc, rfl⟩ := List.mem_map.mp hx
      refine ⟨_, rfl, ?_⟩
      bv_omega
      refine u_now (a := .bl (!decide (c ∈ letters.cps.toList))) rfl ?_
      rw [decide_eq_true (h.abc c hc)]
      exact ⟨rfl, rfl⟩
    · bv_omega
      refine ⟨by decide, ?_⟩
      refine u_eqNil (ps := []) rfl ?_
      exact ⟨rfl, rfl⟩
/-! ### terms -/
inductive IsT (pA pB : Str → Prop) : Nat → D → Prop where
  | of {d : Nat} {n : Str} {w : Int} (h : pA n) : IsT pA pB d (.tup [.str "of", .str n, .int w])
  | now {d : Nat} {n : Str} {w : Int} (h : pB n) : IsT pA pB d (.tup [.str "now", .str n, .int w])
  | node {d : Nat} {k : Str} {xs : List D} (hk : k = "first" ∨ k = "last") (h1 : 1 ≤ xs.length) (h2 : xs.length ≤ 100) (h : ∀ x ∈ xs, IsT pA pB d x) : IsT pA pB (d + 1) (.tup [.str k, .lst xs])
  | rank {d : Nat} {r : Int} {xs : List D} (h1 : 1 ≤ r) (h2 : r ≤ xs.length) (h3 : xs.length ≤ 100) (h : ∀ x ∈ xs, IsT pA pB d x) : IsT pA pB (d + 1) (.tup [.str "rank", .int r, .lst xs])
theorem IsT.up {pA pB : Str → Prop} : ∀ {d e : Nat} {x : D}, IsT pA pB d x → d ≤ e → IsT pA pB e x
  | _, _, _, .of h, _ => .of h
  | _, _, _, .now h, _ => .now h
  | _, 0, _, .node hk h1 h2 h, l => by omega
  | _, e + 1, _, .node hk h1 h2 h, l => .node hk h1 h2 fun x hx => (h x hx).up (by omega)
  | _, 0, _, .rank h1 h2 h3 h, l => by omega
  | _, e + 1, _, .rank h1 h2 h3 h, l => .rank h1 h2 h3 fun x hx => (h x hx).up (by omega)
theorem strOk_w (w : String) : PyData.strOk (w : Str) = true := strOk_of w
section
variable {pA pB : Str → Prop} (hA : ∀ n, pA n → Nm n) (hB : ∀ n, pB n → Nm n)
include hA hB in
theorem py_term {st : Sto} : ∀ (d : Nat) (x : D), IsT pA pB d x → ∀ m, ∃ p, toPy (2 * d + 2 + m) st x = some p
  | d, _, .of (n := n) (w := w) h, m => by
    refine ⟨.tuple [.str "of", .str n, .int w], ?_⟩
    rw [show 2 * d + 2 + m = (2 * d + m) + 1 + 1 by omega]
    unfold toPy
    dsimp only
    unfold mapO
    rw [py_str (strOk_w "of")]
    dsimp only
    unfold mapO
    rw [py_str (hA _ h).ok]
    rfl
  | d, _, .now (n := n) (w := w) h, m => by
    refine ⟨.tuple [.str "now", .str n, .int w], ?_⟩
    rw [show 2 * d + 2 + m = (2 * d + m) + 1 + 1 by omega]
    unfold toPy
    dsimp only
    unfold mapO
    rw [py_str (strOk_w "now")]
    dsimp only
    unfold mapO
    rw [py_str (hB _ h).ok]
    rfl
  | d + 1, _, .node (k := k) (xs := xs) hk h1 h2 h, m => by
    obtain ⟨ps, e, l⟩ := mapO_some (f := toPy (2 * d + 2 + m) st) (xs := xs) fun x hx => py_term d x (h x hx) m
    refine ⟨.tuple [.str k, .list ps], ?_⟩
    rw [show 2 * (d + 1) + 2 + m = (2 * d + 2 + m) + 1 + 1 by omega]
    unfold toPy
    dsimp only
    unfold mapO
    rw [py_str (show PyData.strOk k = true by rcases hk with rfl | rfl <;> exact strOk_w _)]
    dsimp only
    unfold mapO
    have e2 : toPy (2 * d + 2 + m + 1) st (.lst xs) = some (.list ps) := by
      unfold toPy
      dsimp only
      rw [e]
    rw [e2]
    rfl
  | d + 1, _, .rank (r := r) (xs := xs) h1 h2 h3 h, m => by
    obtain ⟨ps, e, l⟩ := mapO_some (f := toPy (2 * d + 2 + m) st) (xs := xs) fun x hx => py_term d x (h x hx) m
    refine ⟨.tuple [.str "rank", .int r, .list ps], ?_⟩
    rw [show 2 * (d + 1) + 2 + m = (2 * d + 2 + m) + 1 + 1 by omega]
    unfold toPy
    dsimp only
    unfold mapO
    rw [py_str (strOk_w "rank")]
    dsimp only
    unfold mapO
    have e1 : toPy (2 * d + 2 + m + 1) st (.int r) = some (.int r) := by unfold toPy; rfl
    rw [e1]
    dsimp only
    unfold mapO
    have e2 : toPy (2 * d + 2 + m + 1) st (.lst xs) = some (.list ps) := by
      unfold toPy
      dsimp only
      rw [e]
    rw [e2]
    rfl
include hA hB in
theorem py_terms {st : Sto} {d : Nat} {xs : List D} (hd : d ≤ 20) (h : ∀ x ∈ xs, IsT pA pB d x) : ∃ ps, toPy 60 st (.lst xs) = some (.list ps) ∧ ps.length = xs.length := by
  obtain ⟨ps, e, l⟩ := mapO_some (f := toPy 59 st) (xs := xs) fun x hx => by
    have := py_term hA hB (st := st) d x (h x hx) (57 - 2 * d)
    rwa [show 2 * d + 2 + (57 - 2 * d) = 59 by omega] at this
  refine ⟨ps, ?_, l⟩
  unfold toPy
  dsimp only
  rw [e]
theorem at_nat {xs : List D} {i : Nat} {d : D} {j : Int} (e : j = i) (h : xs[i]? = some d) : atI xs j = some d := by
  subst e
  have := (List.getElem?_eq_some_iff.mp h).1
  unfold atI ixN
  rw [if_pos (by omega), if_pos (by omega), Int.toNat_natCast]
  exact h
include hA hB in
theorem is_term_ok : ∀ (d : Nat) (x : D), IsT pA pB d x → d ≤ 20 → ∀ f, 2 * d + 1 ≤ f → ∀ st, mr_is_term f [x] st = some (.bl true, st)
  | d, _, .of (n := n) (w := w) h, _, 0, hf, st => by omega
  | d, _, .of (n := n) (w := w) h, _, f + 1, hf, st => by
    rw [sr_is_term]
    refine Ok.eq (z_fn rfl ?_)
    unfold b_is_term
    bv_omega
    refine u_now rfl ?_
    refine b_f rfl ?_
    bv_omega
    refine u_now rfl ?_
    bv_omega
    refine b_f rfl ?_
    bv_omega
    refine u_ixT rfl ?_
    bv_omega
    refine u_now rfl ?_
    refine b_f rfl ?_
    bv_omega
    refine u_ixT rfl ?_
    bv_omega
    refine ⟨by simp, ?_⟩
    refine u_now (a := .bl true) rfl ?_
    refine b_t rfl ?_
    bv_omega
    refine u_now rfl ?_
    bv_omega
    refine u_eq rfl rfl ?_
    refine b_t rfl ?_
    bv_omega
    refine u_ixT rfl ?_
    bv_omega
    refine Ok.use (name_ok (hA n h)) ?_
    refine b_t rfl ?_
    bv_omega
    refine u_ixT rfl ?_
    bv_omega
    refine Ok.use whole_ok ?_
    exact ⟨rfl, rfl⟩
  | d, _, .now (n := n) (w := w) h, _, 0, hf, st => by omega
  | d, _, .now (n := n) (w := w) h, _, f + 1, hf, st => by
    rw [sr_is_term]
    refine Ok.eq (z_fn rfl ?_)
    unfold b_is_term
    bv_omega
    refine u_now rfl ?_
    refine b_f rfl ?_
    bv_omega
    refine u_now rfl ?_
    bv_omega
    refine b_f rfl ?_
    bv_omega
    refine u_ixT rfl ?_
    bv_omega
    refine u_now rfl ?_
    refine b_f rfl ?_
    bv_omega
    refine u_ixT rfl ?_
    bv_omega
    refine ⟨by simp, ?_⟩
    refine u_now (a := .bl true) rfl ?_
    refine b_t rfl ?_
    bv_omega
    refine u_now rfl ?_
    bv_omega
    refine u_eq rfl rfl ?_
    refine b_t rfl ?_
    bv_omega
    refine u_ixT rfl ?_
    bv_omega
    refine Ok.use (name_ok (hB n h)) ?_
    refine b_t rfl ?_
    bv_omega
    refine u_ixT rfl ?_
    bv_omega
    refine Ok.use whole_ok ?_
    exact ⟨rfl, rfl⟩
  | d + 1, _, .node (k := k) (xs := xs) hk h1 h2 h, hd, 0, hf, st => by omega
  | d + 1, _, .node (k := k) (xs := xs) hk h1 h2 h, hd, 1, hf, st => by omega
  | d + 1, _, .node (k := k) (xs := xs) hk h1 h2 h, hd, f + 2, hf, st => by
    have hs : mr_are_terms (f + 1) [.lst xs] st = some (.bl true, st) := by
      obtain ⟨ps, ep, lp⟩ := py_terms hA hB (st := st) (show d ≤ 20 by omega) h
      rw [sr_are_terms]
      refine Ok.eq (z_fn rfl ?_)
      unfold b_are_terms
      bv_omega
      refine u_now rfl ?_
      refine b_f rfl ?_
      bv_omega
      refine ⟨by simp, ?_⟩
      refine u_eqNil ep ?_
      refine b_f (decide_eq_false fun z => by rw [z] at lp; simp at lp; omega) ?_
      bv_omega
      refine z_seqI ?_
      bv_omega
      refine ⟨xs, .inl rfl, by show xs.length ≤ 1000000; omega, ?_⟩
      refine Ok.use (comp_none rfl _ fun x hx => ?_) ?_
      · refine ⟨_, rfl, ?_⟩
        bv_omega
        refine Ok.use (is_term_ok d x (h x hx) (by omega) f (by omega) st) ?_
        exact ⟨rfl, rfl⟩
      · bv_omega
        refine ⟨by simp, ?_⟩
        refine u_eqNil (ps := []) rfl ?_
        exact ⟨rfl, rfl⟩
    rw [sr_is_term]
    refine Ok.eq (z_fn rfl ?_)
    unfold b_is_term
    bv_omega
    refine u_now rfl ?_
    refine b_f rfl ?_
    bv_omega
    refine u_now rfl ?_
    bv_omega
    refine b_f rfl ?_
    bv_omega
    refine u_ixT rfl ?_
    bv_omega
    refine u_now rfl ?_
    refine b_f rfl ?_
    bv_omega
    refine u_ixT rfl ?_
    bv_omega
    refine ⟨by simp, ?_⟩
    refine u_now (a := .bl false) (by rcases hk with rfl | rfl <;> rfl) ?_
    refine b_f rfl ?_
    bv_omega
    refine u_ixT rfl ?_
    bv_omega
    refine ⟨by simp, ?_⟩
    refine u_now (a := .bl true) (by rcases hk with rfl | rfl <;> rfl) ?_
    refine b_t rfl ?_
    bv_omega
    refine u_now rfl ?_
    bv_omega
    refine u_eq rfl rfl ?_
    refine b_t rfl ?_
    bv_omega
    refine u_ixT rfl ?_
    bv_omega
    refine Ok.use hs ?_
    exact ⟨rfl, rfl⟩
  | d + 1, _, .rank (r := r) (xs := xs) h1 h2 h3 h, hd, 0, hf, st => by omega
  | d + 1, _, .rank (r := r) (xs := xs) h1 h2 h3 h, hd, 1, hf, st => by omega
  | d + 1, _, .rank (r := r) (xs := xs) h1 h2 h3 h, hd, f + 2, hf, st => by
    have hs : mr_are_terms (f + 1) [.lst xs] st = some (.bl true, st) := by
      obtain ⟨ps, ep, lp⟩ := py_terms hA hB (st := st) (show d ≤ 20 by omega) h
      rw [sr_are_terms]
      refine Ok.eq (z_fn rfl ?_)
      unfold b_are_terms
      bv_omega
      refine u_now rfl ?_
      refine b_f rfl ?_
      bv_omega
      refine ⟨by simp, ?_⟩
      refine u_eqNil ep ?_
      refine b_f (decide_eq_false fun z => by rw [z] at lp; simp at lp; omega) ?_
      bv_omega
      refine z_seqI ?_
      bv_omega
      refine ⟨xs, .inl rfl, by show xs.length ≤ 1000000; omega, ?_⟩
      refine Ok.use (comp_none rfl _ fun x hx => ?_) ?_
      · refine ⟨_, rfl, ?_⟩
        bv_omega
        refine Ok.use (is_term_ok d x (h x hx) (by omega) f (by omega) st) ?_
        exact ⟨rfl, rfl⟩
      · bv_omega
        refine ⟨by simp, ?_⟩
        refine u_eqNil (ps := []) rfl ?_
        exact ⟨rfl, rfl⟩
    rw [sr_is_term]
    refine Ok.eq (z_fn rfl ?_)
    unfold b_is_term
    bv_omega
    refine u_now rfl ?_
    refine b_f rfl ?_
    bv_omega
    refine u_now rfl ?_
    bv_omega
    refine b_f rfl ?_
    bv_omega
    refine u_ixT rfl ?_
    bv_omega
    refine u_now rfl ?_
    refine b_f rfl ?_
    bv_omega
    refine u_ixT rfl ?_
    bv_omega
    refine ⟨by simp, ?_⟩
    refine u_now (a := .bl false) rfl ?_
    refine b_f rfl ?_
    bv_omega
    refine u_ixT rfl ?_
    bv_omega
    refine ⟨by simp, ?_⟩
    refine u_now (a := .bl false) rfl ?_
    refine b_f rfl ?_
    bv_omega
    refine u_ixT rfl ?_
    bv_omega
    refine u_neW (strOk_w _) (strOk_w _) ?_
    refine b_f (by decide) ?_
    bv_omega
    refine u_now rfl ?_
    bv_omega
    refine u_ne rfl rfl ?_
    refine b_f rfl ?_
    bv_omega
    refine u_ixT rfl ?_
    bv_omega
    refine Ok.use whole_ok ?_
    refine b_f rfl ?_
    bv_omega
    refine u_ixT rfl ?_
    bv_omega
    refine Ok.use hs ?_
    refine b_f rfl ?_
    bv_omega
    refine chn_ok ?_
    bv_omega
    refine u_ixT rfl ?_
    refine ⟨decide_eq_true h1, ?_⟩
    bv_omega
    refine u_ixT rfl ?_
    bv_omega
    refine u_now rfl ?_
    refine ⟨?_, rfl⟩
    rw [decide_eq_true (by omega)]
theorem slice_last {a b : D} {st : Sto} : slT (.tup [a, b]) none (some (-1)) st = some (.tup [a]) := rfl
theorem slice_last3 {a b c : D} {st : Sto} : slT (.tup [a, b, c]) none (some (-1)) st = some (.tup [a, b]) := rfl
theorem inside_ok {xs : List D} {y : D} {st : Sto} (hx : xs.length = 2 ∨ xs.length = 3) : m_with_inside [.tup xs, y] st = some (.tup (xs.dropLast ++ [y]), st) := by
  rcases hx with hx | hx
  · obtain ⟨a, b, rfl⟩ : ∃ a b, xs = [a, b] := by
      match xs, hx with
      | [a, b], _ => exact ⟨a, b, rfl⟩
    refine Ok.eq (z_fn rfl ?_)
    unfold b_with_inside
    bv_omega
    refine u_now slice_last ?_
    bv_omega
    refine ⟨by simp, ?_⟩
    refine u_now rfl ?_
    exact ⟨rfl, rfl⟩
  · obtain ⟨a, b, c, rfl⟩ : ∃ a b c, xs = [a, b, c] := by
      match xs, hx with
      | [a, b, c], _ => exact ⟨a, b, c, rfl⟩
    refine Ok.eq (z_fn rfl ?_)
    unfold b_with_inside
    bv_omega
    refine u_now slice_last3 ?_
    bv_omega
    refine ⟨by simp, ?_⟩
    refine u_now rfl ?_
    exact ⟨rfl, rfl⟩
theorem part_of {n : Str} {w : Int} {st : Sto} : m_is_part [.tup [.str "of", .str n, .int w]] st = some (.bl true, st) := by
  refine Ok.eq (z_fn rfl ?_)
  unfold b_is_part
  bv_omega
  refine u_ixT rfl ?_
  bv_omega
  refine ⟨by simp, ?_⟩
  refine u_now (a := .bl true) rfl ?_
  exact ⟨rfl, rfl⟩
theorem part_now {n : Str} {w : Int} {st : Sto} : m_is_part [.tup [.str "now", .str n, .int w]] st = some (.bl true, st) := by
  refine Ok.eq (z_fn rfl ?_)
  unfold b_is_part
  bv_omega
  refine u_ixT rfl ?_
  bv_omega
  refine ⟨by simp, ?_⟩
  refine u_now (a := .bl true) rfl ?_
  exact ⟨rfl, rfl⟩
theorem part_no {k : Str} {xs : List D} {st : Sto} (hk : k = "first" ∨ k = "last" ∨ k = "rank") : m_is_part [.tup (.str k :: xs)] st = some (.bl false, st) := by
  refine Ok.eq (z_fn rfl ?_)
  unfold b_is_part
  bv_omega
  refine u_ixT (d := .str k) (at_nat (i := 0) rfl rfl) ?_
  bv_omega
  refine ⟨by simp, ?_⟩
  refine u_now (a := .bl false) (by rcases hk with rfl | rfl | rfl <;> rfl) ?_
  exact ⟨rfl, rfl⟩
theorem last2 {a b : D} : atI [a, b] (-1) = some b := rfl
theorem last3 {a b c : D} : atI [a, b, c] (-1) = some c := rfl
theorem copied_ok : ∀ (d : Nat) (x : D), IsT pA pB d x → ∀ f, d + 1 ≤ f → ∀ st, mr_copied f [x] st = some (x, st)
  | d, _, h, 0, hf, st => by omega
  | d, _, .of (n := n) (w := w) h, f + 1, hf, st => by
    rw [sr_copied]
    refine Ok.eq (z_fn rfl ?_)
    unfold b_copied
    bv_omega
    refine Ok.use part_of ?_
    refine b_t rfl ?_
    bv_omega
    exact ⟨rfl, rfl⟩
  | d, _, .now (n := n) (w := w) h, f + 1, hf, st => by
    rw [sr_copied]
    refine Ok.eq (z_fn rfl ?_)
    unfold b_copied
    bv_omega
    refine Ok.use part_now ?_
    refine b_t rfl ?_
    bv_omega
    exact ⟨rfl, rfl⟩
  | d + 1, _, .node (k := k) (xs := xs) hk h1 h2 h, f + 1, hf, st => by
    rw [sr_copied]
    refine Ok.eq (z_fn rfl ?_)
    unfold b_copied
    bv_omega
    refine Ok.use (part_no (xs := [.lst xs]) (by rcases hk with e | e; exact .inl e; exact .inr (.inl e))) ?_
    refine b_f rfl ?_
    bv_omega
    refine z_seqI ?_
    bv_omega
    refine u_ixT last2 ?_
    refine ⟨xs, .inl rfl, by show xs.length ≤ 1000000; omega, ?_⟩
    refine Ok.use (comp_yes id rfl xs fun x hx => ?_) ?_
    · refine ⟨_, rfl, ?_⟩
      bv_omega
      refine Ok.use (copied_ok d x (h x hx) f (by omega) st) ?_
      exact ⟨rfl, rfl⟩
    · rw [List.map_id]
      bv_omega
      refine Ok.use (inside_ok (.inl rfl)) ?_
      exact ⟨rfl, rfl⟩
  | d + 1, _, .rank (r := r) (xs := xs) h1 h2 h3 h, f + 1, hf, st => by
    rw [sr_copied]
    refine Ok.eq (z_fn rfl ?_)
    unfold b_copied
    bv_omega
    refine Ok.use (part_no (xs := [.int r, .lst xs]) (.inr (.inr rfl))) ?_
    refine b_f rfl ?_
    bv_omega
    refine z_seqI ?_
    bv_omega
    refine u_ixT last3 ?_
    refine ⟨xs, .inl rfl, by show xs.length ≤ 1000000; omega, ?_⟩
    refine Ok.use (comp_yes id rfl xs fun x hx => ?_) ?_
    · refine ⟨_, rfl, ?_⟩
      bv_omega
      refine Ok.use (copied_ok d x (h x hx) f (by omega) st) ?_
      exact ⟨rfl, rfl⟩
    · rw [List.map_id]
      bv_omega
      refine Ok.use (inside_ok (.inr rfl)) ?_
      exact ⟨rfl, rfl⟩
end
end K94

namespace K94
open PySem L2 LW
local macro_rules | `(tactic| bv_omega) => `(tactic| (repeat (first | with_reducible first | refine z_var (by with_unfolding_all rfl) ?_ | refine z_pk (by with_unfolding_all rfl) ?_ | refine z_pkO (by with_unfolding_all rfl) ?_ | refine z_retO (by with_unfolding_all rfl) ?_ | refine z_dictO (by with_unfolding_all rfl) ?_ | refine z_c ?_ | refine z_op ?_ | refine z_nil ?_ | refine z_cons ?_ | refine z_tup ?_ | refine z_lst ?_ | refine z_L ?_ | refine z_bi ?_ | refine z_call ?_ | refine z_meth ?_ | refine z_prop ?_ | refine z_fld ?_ | refine z_make ?_ | refine z_not ?_ | refine z_neg ?_ | refine z_bits ?_ | refine t_of ?_ | refine t_not ?_ | refine z_slN ?_ | refine z_oN ?_ | refine z_oS ?_ | refine z_snil ?_ | refine z_seq ?_ | refine z_set ?_ | refine z_own ?_ | refine z_ret ?_ | refine z_retC ?_ | refine z_drop ?_ | refine z_frz ?_ | refine z_app ?_ | refine z_appC ?_ | refine z_putC ?_ | refine z_for ?_ | refine z_lc ?_ | refine z_yes ?_ | refine z_kv ?_ | refine z_ko ?_ | refine z_par ?_ | refine z_unp ?_ | refine z_sfld ?_ | refine z_rg1 ?_ | refine z_rg2 ?_ | refine z_rg3 ?_ | refine z_and ?_ | refine z_or ?_ | refine z_eif ?_ | refine t_and ?_ | refine t_or ?_ | refine z_sif ?_ | refine u_add ?_ | refine u_sub ?_ | refine u_lt ?_ | refine u_le ?_ | refine u_gt ?_ | refine u_ge ?_ | refine u_isN ?_ | refine u_notN ?_ | refine z_par3 ?_ | refine z_dcl ?_ | refine z_cel ?_ | refine z_putDC ?_ | refine z_clrC ?_ | refine z_ownD ?_ | refine z_lenSN ?_ | refine z_D ?_ | refine z_dComp ?_ | refine z_lc2 ?_ | refine z_sn ?_ | refine z_makeC ?_ | refine z_methC ?_ | refine z_fldC ?_ | refine z_sfldC ?_ | refine z_xSet ?_ | refine z_methX ?_ | refine z_methCX ?_ | refine z_xIfE ?_ | refine z_xEL ?_ | refine z_xPar2 (by decide) ?_ | refine z_kD2 ?_ | refine z_par2 (by decide) ?_ | refine z_d0 ?_ | refine z_xBare ?_ | refine z_xFrz ?_ | refine z_xFor ?_ | refine z_sortIt ?_ | refine z_lenO ?_ | refine z_xSeq ?_ | refine z_xIf ?_ | refine z_xRaise ?_ | refine z_xL ?_ | refine z_xNil ?_ | refine z_xDrop ?_ | refine z_xRet ?_ | refine z_eCallX ?_ | refine z_sTry ?_ | refine z_DT ?_ | refine z_t0 ?_ | refine z_Td ?_ | refine z_ownT ?_ | refine z_putT ?_ | refine z_frzT ?_ | refine z_par3T ?_ | refine z_toT ?_ | refine z_join ?_ | refine z_sw3 ?_ | (with_reducible refine u_mul ?_ ?_; next => first | exact mulC_r (by decide) (by decide) | exact mulC_l (by decide) (by decide) | exact mulC_r (by omega) (by omega) | exact mulC_l (by omega) (by omega)) | (with_reducible refine u_mod ?_ ?_; next => first | decide | assumption | omega) | (with_reducible refine u_div ?_ ?_; next => first | exact divC_s (by decide) (by decide) | exact divC_s (by omega) (by omega)))))
theorem u_addL {s : Sto} {x y : D} {xs ys : List D} {Q : D → Prop} (hx : lstM s x = some xs) (hy : lstM s y = some ys) (hl : xs.length + ys.length ≤ 1000000) (q : Q (.lst (xs ++ ys))) : Od (oAdd x y s) Q := by
  refine ⟨_, ?_, q⟩
  have e : asL oCat x y s = some (.lst (xs ++ ys)) := by
    unfold asL oCat
    rw [hx, hy]
    dsimp only
    rw [if_pos hl]
  have e1 : oAdd x y s = (orO (asL oCat) oCatT) x y s := by
    cases x with
    | lst _ => rfl
    | cell _ => rfl
    | _ => cases hx
  rw [e1]
  unfold orO
  rw [e]
abbrev ruD (x : D) : D := .obj "Rule" ["form"] [x]
theorem nmI : ∀ n : Str, Nm n → Nm n := fun _ h => h
theorem rule_ok {x : D} {st : Sto} (h : IsT Nm Nm 8 x) : m_Rule___init__ [x] st = some ((([("form" : Str)] : List Str), [x]), st) := by
  refine Ok.eq (z_init rfl ?_)
  unfold b_Rule___init__
  bv_omega
  refine Ok.use (is_term_ok nmI nmI 8 x h (by decide) 22 (by decide) st) ?_
  refine b_f rfl ?_
  bv_omega
  refine Ok.use (copied_ok 8 x h 11 (by decide) st) ?_
  refine ⟨_, _, rfl, by decide, ?_⟩
  exact ⟨_, rfl, rfl, rfl⟩
theorem form_ok {x : D} : fldD "form" ["form"] [x] = some x := rfl
theorem rterm_ok {x : D} {st : Sto} (h : IsT Nm Nm 8 x) : m_Rule_term [ruD x] st = some (x, st) := by
  refine Ok.eq (z_fn rfl ?_)
  unfold b_Rule_term
  bv_omega
  refine ⟨rfl, u_now form_ok ?_⟩
  bv_omega
  refine Ok.use (copied_ok 8 x h 11 (by decide) st) ?_
  exact ⟨rfl, rfl⟩
theorem ckrule_ok {x : D} {st : Sto} : m_check_rule [ruD x] st = some (.non, st) := by
  refine Ok.eq (z_fn rfl ?_)
  unfold b_check_rule
  bv_omega
  refine u_now (a := .bl true) rfl ?_
  refine b_f rfl ?_
  bv_omega
  exact ⟨rfl, rfl⟩
end K94

namespace LW
open PySem L2
theorem u_addS {s : Sto} {a b : Str} {Q : D → Prop} (hl : a.length + b.length ≤ 1000000) (q : Q (.str (a ++ b))) : Od (oAdd (.str a) (.str b) s) Q := by
  refine u_now ?_ q
  have e : oCatS (.str a) (.str b) s = some (.str (a ++ b)) := by unfold oCatS; exact if_pos hl
  show orO oCatS _ _ _ _ = _
  unfold orO
  rw [e]
end LW
namespace K94
open PySem L2 LW
local macro_rules | `(tactic| bv_omega) => `(tactic| (repeat (first | with_reducible first | refine z_var (by with_unfolding_all rfl) ?_ | refine z_pk (by with_unfolding_all rfl) ?_ | refine z_pkO (by with_unfolding_all rfl) ?_ | refine z_retO (by with_unfolding_all rfl) ?_ | refine z_dictO (by with_unfolding_all rfl) ?_ | refine z_c ?_ | refine z_op ?_ | refine z_nil ?_ | refine z_cons ?_ | refine z_tup ?_ | refine z_lst ?_ | refine z_L ?_ | refine z_bi ?_ | refine z_call ?_ | refine z_meth ?_ | refine z_prop ?_ | refine z_fld ?_ | refine z_make ?_ | refine z_not ?_ | refine z_neg ?_ | refine z_bits ?_ | refine t_of ?_ | refine t_not ?_ | refine z_slN ?_ | refine z_oN ?_ | refine z_oS ?_ | refine z_snil ?_ | refine z_seq ?_ | refine z_set ?_ | refine z_own ?_ | refine z_ret ?_ | refine z_retC ?_ | refine z_drop ?_ | refine z_frz ?_ | refine z_app ?_ | refine z_appC ?_ | refine z_putC ?_ | refine z_for ?_ | refine z_lc ?_ | refine z_yes ?_ | refine z_kv ?_ | refine z_ko ?_ | refine z_par ?_ | refine z_unp ?_ | refine z_sfld ?_ | refine z_rg1 ?_ | refine z_rg2 ?_ | refine z_rg3 ?_ | refine z_and ?_ | refine z_or ?_ | refine z_eif ?_ | refine t_and ?_ | refine t_or ?_ | refine z_sif ?_ | refine u_add ?_ | refine u_sub ?_ | refine u_lt ?_ | refine u_le ?_ | refine u_gt ?_ | refine u_ge ?_ | refine u_isN ?_ | refine u_notN ?_ | refine z_par3 ?_ | refine z_dcl ?_ | refine z_cel ?_ | refine z_putDC ?_ | refine z_clrC ?_ | refine z_ownD ?_ | refine z_lenSN ?_ | refine z_D ?_ | refine z_dComp ?_ | refine z_lc2 ?_ | refine z_sn ?_ | refine z_makeC ?_ | refine z_methC ?_ | refine z_fldC ?_ | refine z_sfldC ?_ | refine z_xSet ?_ | refine z_methX ?_ | refine z_methCX ?_ | refine z_xIfE ?_ | refine z_xEL ?_ | refine z_xPar2 (by decide) ?_ | refine z_kD2 ?_ | refine z_par2 (by decide) ?_ | refine z_d0 ?_ | refine z_xBare ?_ | refine z_xFrz ?_ | refine z_xFor ?_ | refine z_sortIt ?_ | refine z_lenO ?_ | refine z_xSeq ?_ | refine z_xIf ?_ | refine z_xRaise ?_ | refine z_xL ?_ | refine z_xNil ?_ | refine z_xDrop ?_ | refine z_xRet ?_ | refine z_eCallX ?_ | refine z_sTry ?_ | refine z_DT ?_ | refine z_t0 ?_ | refine z_Td ?_ | refine z_ownT ?_ | refine z_putT ?_ | refine z_frzT ?_ | refine z_par3T ?_ | refine z_toT ?_ | refine z_join ?_ | refine z_sw3 ?_ | (with_reducible refine u_mul ?_ ?_; next => first | exact mulC_r (by decide) (by decide) | exact mulC_l (by decide) (by decide) | exact mulC_r (by omega) (by omega) | exact mulC_l (by omega) (by omega)) | (with_reducible refine u_mod ?_ ?_; next => first | decide | assumption | omega) | (with_reducible refine u_div ?_ ?_; next => first | exact divC_s (by decide) (by decide) | exact divC_s (by omega) (by omega)))))
theorem ix_nat {n i : Nat} {j : Int} (e : j = i) (h : i < n) : ixN n j = some i := by
  subst e
  unfold ixN
  rw [if_pos (by omega), if_pos (by omega), Int.toNat_natCast]
/-! ### words -/
theorem letters_len : letters.cps.toList.length = 26 := by decide +kernel
theorem ix_letter {r : Int} {s : Sto} (h0 : 0 ≤ r) (h1 : r < 26) : ∃ ch, ch ∈ letters.cps.toList ∧ oIx (.str letters) (.int r) s = some (.str ⟨#[ch]⟩) := by
  have hl : r.toNat < letters.cps.toList.length := by rw [letters_len]; omega
  refine ⟨letters.cps.toList[r.toNat], List.getElem_mem hl, ?_⟩
  have e : atI letters.cps.toList r = some letters.cps.toList[r.toNat] := by
    unfold atI
    rw [ix_nat (i := r.toNat) (by omega) hl]
    exact List.getElem?_eq_getElem hl
  show (if letters.length ≤ 1000000 then (match atI letters.cps.toList r with | some ch => some (D.str ⟨#[ch]⟩) | none => none) else none) = _
  rw [if_pos (by decide +kernel), e]
structure Wo (i : Nat) (z : Str) : Prop where
  len : z.length = i
  abc : ∀ c ∈ z.cps.toList, c ∈ letters.cps.toList
theorem Wo.snoc {i : Nat} {z : Str} {ch : Nat} (h : Wo i z) (hc : ch ∈ letters.cps.toList) : Wo (i + 1) (z ++ ⟨#[ch]⟩) where
  len := by
    have := h.len
    show (z.cps ++ #[ch]).size = _
    rw [Array.size_append]
    show z.cps.size + 1 = _
    have : z.cps.size = i := this
    omega
  abc := fun c hm => by
    have : c ∈ (z.cps ++ #[ch]).toList := hm
    rw [Array.toList_append] at this
    rcases List.mem_append.mp this with q | q
    · exact h.abc c q
    · rw [List.mem_singleton.mp q]; exact hc
theorem wordK {n k : Nat} {st : Sto} (P : Pc k n st) (hn : n < 2 ^ 45) {Q : D → Sto → Prop} (h : ∀ z s, Pc k (n + 40) s → Keep k st s → Nm z → Q (.str z) s) : Ok (m__law_word [.cell k] st) Q := by
  refine z_fn rfl ?_
  unfold b__law_word
  bv_omega
  refine drawK P (by omega) (m := 8) (by decide) (by decide) fun r s1 P1 K1 r0 r1 => ?_
  bv_omega
  refine ⟨_, rfl, inR_t (by omega) (by omega), ?_⟩
  refine (loop_inv (fun i env s => ∃ z p2, env = [.val (.cell k), .val (.str z), p2] ∧ Wo i z ∧ Pc k (n + 4 + 4 * i) s ∧ Keep k st s) _ 0 _ _ ⟨"", _, rfl, ⟨rfl, fun c hc => by cases hc⟩, P1, K1⟩ ?_ (fun _ _ _ => rfl)).mono ?_
  · rintro i x e s hx ⟨z, p2, rfl, W, P2, K2⟩
    have hi : i < 8 := by
      have := (List.getElem?_eq_some_iff.mp hx).1
      rw [rangeD_len] at this
      omega
    have wl := W.len
    rw [Nat.zero_add] at P2 wl W
    refine ⟨rfl, _, rfl, ?_⟩
    bv_omega
    refine drawK P2 (by omega) (m := 26) (by decide) (by decide) fun r2 s2 P3 K3 q0 q1 => ?_
    obtain ⟨ch, hc, ec⟩ := ix_letter (s := s2) q0 q1
    refine u_now ec ?_
    refine u_addS (by show z.length + 1 ≤ _; omega) ?_
    refine ⟨_, .inl rfl, _, _, rfl, ?_, ?_, K2.trans K3⟩
    · rw [Nat.zero_add]; exact W.snoc hc
    · rw [Nat.zero_add]; exact P3.mono (by omega)
  · rintro o s ⟨e, rfl, z, p2, rfl, W, P2, K2⟩
    rw [rangeD_len, Nat.zero_add] at P2 W
    have wl := W.len
    bv_omega
    exact h z s (P2.mono (by omega)) K2 ⟨by omega, by omega, W.abc⟩
/-! ### shuffled -/
theorem shuffleK {n k : Nat} {st : Sto} {zs : List Str} (P : Pc k n st) (hn : n < 2 ^ 45) (hl : zs.length < 100) {Q : D → Sto → Prop} (h : ∀ (ys : List Str) s, Pc k (n + 400) s → Keep k st s → ys.Perm zs → Q (.lst (ys.map D.str)) s) : Ok (m__law_shuffled [.cell k, .lst (zs.map D.str)] st) Q := by
  refine z_fn rfl ?_
  unfold b__law_shuffled
  bv_omega
  refine ⟨by simp, ?_⟩
  bv_omega
  refine z_seqI ?_
  bv_omega
  refine ⟨_, .inl rfl, ?_⟩
  refine (loop_inv (fun i env s => ∃ (ys : List Str) (p3 : Sl), env = [.val (.cell k), .val (.lst (zs.map D.str)), .own (ys.map D.str), p3] ∧ ys.Perm (zs.take i) ∧ Pc k (n + 4 * i) s ∧ Keep k st s) _ 0 _ _ ⟨[], _, rfl, List.Perm.refl _, P, Keep.refl⟩ ?_ (fun _ _ _ => rfl)).mono ?_
  · rintro i x e s hx ⟨ys, p3, rfl, pm, P2, K2⟩
    rw [Nat.zero_add] at P2 pm
    rw [List.getElem?_map] at hx
    obtain ⟨z, hz, rfl⟩ := Option.map_eq_some_iff.mp hx
    have hi : i < zs.length := (List.getElem?_eq_some_iff.mp hz).1
    have yl : ys.length = i := by rw [pm.length_eq, List.length_take]; omega
    refine ⟨rfl, _, rfl, ?_⟩
    refine z_ins ?_
    bv_omega
    refine u_now rfl ?_
    bv_omega
    rw [List.length_map]
    refine drawK P2 (by omega) (m := (ys.length : Int) + 1) (by omega) (by omega) fun r s2 P3 K3 q0 q1 => ?_
    bv_omega
    refine ⟨_, rfl, ⟨by rw [List.length_map]; omega, q0, by omega⟩, ?_⟩
    refine ⟨_, .inl rfl, ys.take r.toNat ++ [z] ++ ys.drop r.toNat, .val (.str z), ?_, ?_, ?_, K2.trans K3⟩
    · rw [List.map_append, List.map_append, List.map_take, List.map_drop]
      rfl
    · rw [Nat.zero_add, List.take_add_one, hz]
      have p1 : (ys.take r.toNat ++ [z] ++ ys.drop r.toNat).Perm (ys ++ [z]) := by
        have : (ys.take r.toNat ++ [z] ++ ys.drop r.toNat).Perm (ys.take r.toNat ++ ys.drop r.toNat ++ [z]) := by
          rw [List.append_assoc, List.append_assoc]
          exact List.Perm.append_left _ List.perm_append_comm
        rwa [List.take_append_drop] at this
      exact p1.trans (pm.append_right _)
    · rw [Nat.zero_add]; exact P3.mono (by omega)
  · rintro o s ⟨e, rfl, ys, p3, rfl, pm, P2, K2⟩
    rw [List.length_map, Nat.zero_add] at P2 pm
    rw [List.take_length] at pm
    bv_omega
    exact h ys s (P2.mono (by omega)) K2 pm
theorem cutD_strs {zs : List Str} {lo hi : Option Int} : cutD (zs.map D.str) lo hi = (cutD zs lo hi).map D.str := by
  unfold cutD
  rw [List.length_map, List.map_take, List.map_drop]
theorem cut_take {α : Type} {zs : List α} {m : Nat} : cutD zs none (some (m : Int)) = zs.take m := by
  unfold cutD
  rw [HT.sIx_nat]
  show List.take (min m zs.length - 0) (List.drop 0 zs) = _
  rw [List.drop_zero, Nat.sub_zero]
  by_cases h : m ≤ zs.length
  · rw [Nat.min_eq_left h]
  · rw [Nat.min_eq_right (by omega), List.take_of_length_le (Nat.le_refl _), List.take_of_length_le (by omega)]
end K94

namespace K94
open PySem L2 LW
local macro_rules | `(tactic| bv_omega) => `(tactic| (repeat (first | with_reducible first | refine z_var (by with_unfolding_all rfl) ?_ | refine z_pk (by with_unfolding_all rfl) ?_ | refine z_pkO (by with_unfolding_all rfl) ?_ | refine z_retO (by with_unfolding_all rfl) ?_ | refine z_dictO (by with_unfolding_all rfl) ?_ | refine z_c ?_ | refine z_op ?_ | refine z_nil ?_ | refine z_cons ?_ | refine z_tup ?_ | refine z_lst ?_ | refine z_L ?_ | refine z_bi ?_ | refine z_call ?_ | refine z_meth ?_ | refine z_prop ?_ | refine z_fld ?_ | refine z_make ?_ | refine z_not ?_ | refine z_neg ?_ | refine z_bits ?_ | refine t_of ?_ | refine t_not ?_ | refine z_slN ?_ | refine z_oN ?_ | refine z_oS ?_ | refine z_snil ?_ | refine z_seq ?_ | refine z_set ?_ | refine z_own ?_ | refine z_ret ?_ | refine z_retC ?_ | refine z_drop ?_ | refine z_frz ?_ | refine z_app ?_ | refine z_appC ?_ | refine z_putC ?_ | refine z_for ?_ | refine z_lc ?_ | refine z_yes ?_ | refine z_kv ?_ | refine z_ko ?_ | refine z_par ?_ | refine z_unp ?_ | refine z_sfld ?_ | refine z_rg1 ?_ | refine z_rg2 ?_ | refine z_rg3 ?_ | refine z_and ?_ | refine z_or ?_ | refine z_eif ?_ | refine t_and ?_ | refine t_or ?_ | refine z_sif ?_ | refine u_add ?_ | refine u_sub ?_ | refine u_lt ?_ | refine u_le ?_ | refine u_gt ?_ | refine u_ge ?_ | refine u_isN ?_ | refine u_notN ?_ | refine z_par3 ?_ | refine z_dcl ?_ | refine z_cel ?_ | refine z_putDC ?_ | refine z_clrC ?_ | refine z_ownD ?_ | refine z_lenSN ?_ | refine z_D ?_ | refine z_dComp ?_ | refine z_lc2 ?_ | refine z_sn ?_ | refine z_makeC ?_ | refine z_methC ?_ | refine z_fldC ?_ | refine z_sfldC ?_ | refine z_xSet ?_ | refine z_methX ?_ | refine z_methCX ?_ | refine z_xIfE ?_ | refine z_xEL ?_ | refine z_xPar2 (by decide) ?_ | refine z_kD2 ?_ | refine z_par2 (by decide) ?_ | refine z_d0 ?_ | refine z_xBare ?_ | refine z_xFrz ?_ | refine z_xFor ?_ | refine z_sortIt ?_ | refine z_lenO ?_ | refine z_xSeq ?_ | refine z_xIf ?_ | refine z_xRaise ?_ | refine z_xL ?_ | refine z_xNil ?_ | refine z_xDrop ?_ | refine z_xRet ?_ | refine z_eCallX ?_ | refine z_sTry ?_ | refine z_DT ?_ | refine z_t0 ?_ | refine z_Td ?_ | refine z_ownT ?_ | refine z_putT ?_ | refine z_frzT ?_ | refine z_par3T ?_ | refine z_toT ?_ | refine z_join ?_ | refine z_sw3 ?_ | (with_reducible refine u_mul ?_ ?_; next => first | exact mulC_r (by decide) (by decide) | exact mulC_l (by decide) (by decide) | exact mulC_r (by omega) (by omega) | exact mulC_l (by omega) (by omega)) | (with_reducible refine u_mod ?_ ?_; next => first | decide | assumption | omega) | (with_reducible refine u_div ?_ ?_; next => first | exact divC_s (by decide) (by decide) | exact divC_s (by omega) (by omega)))))
/-! ### waits -/
theorem cut_mem {α : Type} {xs : List α} {lo hi : Option Int} {x : α} (h : x ∈ cutD xs lo hi) : x ∈ xs := by
  unfold cutD at h
  exact List.mem_of_mem_drop (List.mem_of_mem_take h)
theorem waitK {n k : Nat} {st : Sto} (P : Pc k n st) (hn : n < 2 ^ 45) {Q : D → Sto → Prop} (h : ∀ (c : Int) s, Pc k (n + 40) s → Keep k st s → c.natAbs < 10 ^ 12 → Q (.int c) s) : Ok (m__law_wait [.cell k] st) Q := by
  refine z_fn rfl ?_
  unfold b__law_wait
  bv_omega
  refine drawK P (by omega) (m := 19) (by decide) (by decide) fun r s1 P1 K1 r0 r1 => ?_
  bv_omega
  refine ⟨by simp, ?_⟩
  bv_omega
  refine u_pow (by decide +kernel) ?_
  bv_omega
  refine drawK P1 (by omega) (m := 10 ^ (9 : Int).toNat) (by decide +kernel) (by decide +kernel) fun r2 s2 P2 K2 q0 q1 => ?_
  have q1 : r2 < 10 ^ 9 := q1
  bv_omega
  refine u_pow (by decide +kernel) ?_
  bv_omega
  refine u_pow (by decide +kernel) ?_
  bv_omega
  refine drawK P2 (by omega) (m := 9) (by decide) (by decide) fun r3 s3 P3 K3 t0 t1 => ?_
  bv_omega
  refine ⟨by simp, ?_⟩
  refine u_addL rfl rfl (by simp) ?_
  bv_omega
  refine drawK P3 (by omega) (m := 4) (by decide) (by decide) fun r4 s4 P4 K4 v0 v1 => ?_
  bv_omega
  obtain ⟨ws, ew, hw⟩ : ∃ ws : List Int, ([D.int 0, .int 0, .int 1, .int 2, .int 3, .int (-1), .int (-2), .int (r - 9)] ++ [.int (r2 - 10 ^ (8 : Int).toNat), .int (10 ^ (11 : Int).toNat + r3)]) = ws.map D.int ∧ ∀ c ∈ ws, c.natAbs < 10 ^ 12 := by
    refine ⟨[0, 0, 1, 2, 3, -1, -2, r - 9, r2 - 10 ^ 8, 10 ^ 11 + r3], rfl, fun c hc => ?_⟩
    simp only [List.mem_cons, List.not_mem_nil, or_false] at hc
    rcases hc with rfl | rfl | rfl | rfl | rfl | rfl | rfl | rfl | rfl | rfl <;> omega
  have el : ws.length = 10 := by
    have := congrArg List.length ew
    rw [List.length_map] at this
    exact this.symm
  rw [ew]
  refine u_now (a := cutD (ws.map D.int) none (some (7 + r4))) rfl ?_
  bv_omega
  have lc : (cutD ws none (some (7 + r4))).length = 7 + r4.toNat := by
    rw [show (7 + r4 : Int) = ((7 + r4.toNat : Nat) : Int) by omega, cut_take, List.length_take]
    omega
  rw [cutD_map]
  refine oneK P4 (by omega) (by rw [List.length_map, lc]; omega) (by rw [List.length_map, lc]; omega) fun d s5 P5 K5 hd => ?_
  obtain ⟨c, hc, rfl⟩ := List.mem_map.mp hd
  exact h c s5 (P5.mono (by omega)) ((((K1.trans K2).trans K3).trans K4).trans K5) (hw c (cut_mem hc))
/-! ### parts -/
end K94

/-! GA94: the law's terms; their texts; as Python data. -/
namespace K94
open PySem L2 LW
inductive Gt : Nat → D → Prop where
  | of {d : Nat} {n : Str} {w : Int} (hn : Nm n) (hw : w.natAbs < 10 ^ 12) : Gt d (.tup [.str "of", .str n, .int w])
  | now {d : Nat} {n : Str} {w : Int} (hn : Nm n) (hw : w.natAbs < 10 ^ 12) : Gt d (.tup [.str "now", .str n, .int w])
  | node {d : Nat} {k : Str} {xs : List D} (hk : k = "first" ∨ k = "last") (h1 : 1 ≤ xs.length) (h2 : xs.length ≤ 2) (h : ∀ x ∈ xs, Gt d x) : Gt (d + 1) (.tup [.str k, .lst xs])
  | rank {d : Nat} {r : Int} {xs : List D} (h1 : 1 ≤ r) (h2 : r ≤ xs.length) (h3 : xs.length ≤ 2) (h : ∀ x ∈ xs, Gt d x) : Gt (d + 1) (.tup [.str "rank", .int r, .lst xs])
theorem Gt.isT : ∀ {d : Nat} {x : D}, Gt d x → IsT Nm Nm d x
  | _, _, .of hn _ => .of hn
  | _, _, .now hn _ => .now hn
  | _, _, .node hk h1 h2 h => .node hk h1 (by omega) fun x hx => (h x hx).isT
  | _, _, .rank h1 h2 h3 h => .rank h1 h2 (by omega) fun x hx => (h x hx).isT
theorem Gt.up : ∀ {d e : Nat} {x : D}, Gt d x → d ≤ e → Gt e x
  | _, _, _, .of h w, _ => .of h w
  | _, _, _, .now h w, _ => .now h w
  | _, 0, _, .node hk h1 h2 h, l => by omega
  | _, e + 1, _, .node hk h1 h2 h, l => .node hk h1 h2 fun x hx => (h x hx).up (by omega)
  | _, 0, _, .rank h1 h2 h3 h, l => by omega
  | _, e + 1, _, .rank h1 h2 h3 h, l => .rank h1 h2 h3 fun x hx => (h x hx).up (by omega)
/-! ### as Python data -/
def pyT : Nat → D → PyData
  | 0 => fun _ => .none
  | n + 1 => fun x => match x with
    | .tup [.str k, .str a, .int c] => .tuple [.str k, .str a, .int c]
    | .tup [.str k, .lst xs] => .tuple [.str k, .list (xs.map (pyT n))]
    | .tup [.str k, .int r, .lst xs] => .tuple [.str k, .int r, .list (xs.map (pyT n))]
    | _ => .none
theorem mapO_T {f : D → Option PyData} {g : D → PyData} : ∀ (xs : List D), (∀ x ∈ xs, f x = some (g x)) → mapO f xs = some (xs.map g)
  | [], _ => rfl
  | x :: xs, H => by
    rw [List.map_cons]
    unfold mapO
    rw [H x List.mem_cons_self]
    dsimp only
    rw [mapO_T xs fun y hy => H y (List.mem_cons_of_mem _ hy)]
theorem toPy_T {st : Sto} : ∀ (d : Nat) (x : D), Gt d x → ∀ f, d + 1 ≤ f → ∀ m, toPy (2 * d + 2 + m) st x = some (pyT f x)
  | d, _, hx, 0, hf, _ => by omega
  | d, _, .of (n := n) (w := w) hn hw, f + 1, hf, m => by
    rw [show 2 * d + 2 + m = (2 * d + m) + 1 + 1 by omega]
    unfold toPy
    dsimp only
    unfold mapO
    rw [py_str (strOk_w "of")]
    dsimp only
    unfold mapO
    rw [py_str hn.ok]
    rfl
  | d, _, .now (n := n) (w := w) hn hw, f + 1, hf, m => by
    rw [show 2 * d + 2 + m = (2 * d + m) + 1 + 1 by omega]
    unfold toPy
    dsimp only
    unfold mapO
    rw [py_str (strOk_w "now")]
    dsimp only
    unfold mapO
    rw [py_str hn.ok]
    rfl
  | d + 1, _, .node (k := k) (xs := xs) hk h1 h2 h, f + 1, hf, m => by
    have e := mapO_T (f := toPy (2 * d + 2 + m) st) (g := pyT f) xs fun x hx => toPy_T d x (h x hx) f (by omega) m
    rw [show 2 * (d + 1) + 2 + m = (2 * d + 2 + m) + 1 + 1 by omega]
    unfold toPy
    dsimp only
    unfold mapO
    rw [py_str (show PyData.strOk k = true by rcases hk with rfl | rfl <;> exact strOk_w _)]
    dsimp only
    unfold mapO
    have e2 : toPy (2 * d + 2 + m + 1) st (.lst xs) = some (.list (xs.map (pyT f))) := by
      unfold toPy
      dsimp only
      rw [e]
    rw [e2]
    rfl
  | d + 1, _, .rank (r := r) (xs := xs) h1 h2 h3 h, f + 1, hf, m => by
    have e := mapO_T (f := toPy (2 * d + 2 + m) st) (g := pyT f) xs fun x hx => toPy_T d x (h x hx) f (by omega) m
    rw [show 2 * (d + 1) + 2 + m = (2 * d + 2 + m) + 1 + 1 by omega]
    unfold toPy
    dsimp only
    unfold mapO
    rw [py_str (strOk_w "rank")]
    dsimp only
    unfold mapO
    rw [show toPy (2 * d + 2 + m + 1) st (.int r) = some (.int r) from rfl]
    dsimp only
    unfold mapO
    have e2 : toPy (2 * d + 2 + m + 1) st (.lst xs) = some (.list (xs.map (pyT f))) := by
      unfold toPy
      dsimp only
      rw [e]
    rw [e2]
    rfl
def Bs : Nat → Nat
  | 0 => 400
  | d + 1 => 8 * Bs d + 4000
theorem Bs_ge {d : Nat} : 400 ≤ Bs d := by
  cases d with
  | zero => exact Nat.le_refl _
  | succ d => show 400 ≤ 8 * Bs d + 4000; omega
theorem sh_k {k : Str} (h : k = "of" ∨ k = "now" ∨ k = "first" ∨ k = "last" ∨ k = "rank") : Sh (.str k) 100 := by
  have : PyData.strOk k = true ∧ k.length ≤ 5 := by rcases h with rfl | rfl | rfl | rfl | rfl <;> exact ⟨strOk_w _, by decide⟩
  exact sh_mono (sh_str this.1) (by omega)
theorem sh_T : ∀ (d : Nat) (x : D), Gt d x → ∀ f, d + 1 ≤ f → Sh (pyT f x) (Bs d)
  | d, _, hx, 0, hf => by omega
  | d, _, .of (n := n) (w := w) hn hw, f + 1, hf => by
    have g := Bs_ge (d := d)
    refine sh_mono (sh_tup (n := 100) (xs := [.str "of", .str n, .int w]) fun x hx => ?_) (by show (100 + 2) * 3 + 3 ≤ _; omega)
    simp only [List.mem_cons, List.not_mem_nil, or_false] at hx
    rcases hx with rfl | rfl | rfl
    · exact sh_k (by simp)
    · exact sh_mono (sh_str hn.ok) (by have := hn.hi; omega)
    · exact sh_mono (sh_int hw) (by decide)
  | d, _, .now (n := n) (w := w) hn hw, f + 1, hf => by
    have g := Bs_ge (d := d)
    refine sh_mono (sh_tup (n := 100) (xs := [.str "now", .str n, .int w]) fun x hx => ?_) (by show (100 + 2) * 3 + 3 ≤ _; omega)
    simp only [List.mem_cons, List.not_mem_nil, or_false] at hx
    rcases hx with rfl | rfl | rfl
    · exact sh_k (by simp)
    · exact sh_mono (sh_str hn.ok) (by have := hn.hi; omega)
    · exact sh_mono (sh_int hw) (by decide)
  | d + 1, _, .node (k := k) (xs := xs) hk h1 h2 h, f + 1, hf => by
    have g := Bs_ge (d := d)
    have sl : Sh (.list (xs.map (pyT f))) (2 * Bs d + 100) := sh_mono (sh_list (n := Bs d) fun y hy => by
      obtain ⟨x, hx, rfl⟩ := List.mem_map.mp hy
      exact sh_T d x (h x hx) f (by omega)) (by
        rw [List.length_map]
        have := Nat.mul_le_mul_left (Bs d + 2) h2
        omega)
    refine sh_mono (sh_tup (n := 2 * Bs d + 100) (xs := [.str k, .list (xs.map (pyT f))]) fun x hx => ?_) (by show (2 * Bs d + 100 + 2) * 2 + 3 ≤ 8 * Bs d + 4000; omega)
    simp only [List.mem_cons, List.not_mem_nil, or_false] at hx
    rcases hx with rfl | rfl
    · exact sh_mono (sh_k (by rcases hk with rfl | rfl <;> simp)) (by omega)
    · exact sl
  | d + 1, _, .rank (r := r) (xs := xs) h1 h2 h3 h, f + 1, hf => by
    have g := Bs_ge (d := d)
    have sl : Sh (.list (xs.map (pyT f))) (2 * Bs d + 100) := sh_mono (sh_list (n := Bs d) fun y hy => by
      obtain ⟨x, hx, rfl⟩ := List.mem_map.mp hy
      exact sh_T d x (h x hx) f (by omega)) (by
        rw [List.length_map]
        have := Nat.mul_le_mul_left (Bs d + 2) h3
        omega)
    refine sh_mono (sh_tup (n := 2 * Bs d + 100) (xs := [.str "rank", .int r, .list (xs.map (pyT f))]) fun x hx => ?_) (by show (2 * Bs d + 100 + 2) * 3 + 3 ≤ 8 * Bs d + 4000; omega)
    simp only [List.mem_cons, List.not_mem_nil, or_false] at hx
    rcases hx with rfl | rfl | rfl
    · exact sh_mono (sh_k (by simp)) (by omega)
    · exact sh_mono (sh_int (Nat.lt_of_lt_of_le (m := 3) (by omega) (by decide))) (by omega)
    · exact sl
/-! ### equal terms -/
theorem eqv_L {f e : Nat} : ∀ (xs ys : List D), (∀ x ∈ xs, ∀ y, Gt e y → PyData.eqv (pyT f x) (pyT f y) = true → x = y) → (∀ y ∈ ys, Gt e y) → PyData.eqvAll (xs.map (pyT f)) (ys.map (pyT f)) = true → xs = ys
  | [], [], _, _, _ => rfl
  | [], y :: ys, _, _, h => by rw [List.map_nil, List.map_cons] at h; unfold PyData.eqvAll at h; cases h
  | x :: xs, [], _, _, h => by rw [List.map_nil, List.map_cons] at h; unfold PyData.eqvAll at h; cases h
  | x :: xs, y :: ys, hx, hy, h => by
    rw [List.map_cons, List.map_cons] at h
    unfold PyData.eqvAll at h
    rw [Bool.and_eq_true] at h
    rw [hx x List.mem_cons_self y (hy y List.mem_cons_self) h.1, eqv_L xs ys (fun z hz => hx z (List.mem_cons_of_mem _ hz)) (fun z hz => hy z (List.mem_cons_of_mem _ hz)) h.2]
theorem eqv_T : ∀ (d : Nat) (x : D), Gt d x → ∀ (e : Nat) (y : D), Gt e y → ∀ f, d + 1 ≤ f → e + 1 ≤ f → PyData.eqv (pyT f x) (pyT f y) = true → x = y
  | d, _, hx, _, _, _, 0, hf, _, _ => by omega
  | d, _, .of hn hw, e, y, hy, f + 1, hf, hf', h => by
    cases hy with
    | of hn' hw' =>
      simp only [pyT, PyData.eqv, PyData.eqvAll, Bool.and_eq_true, beq_iff_eq] at h
      rw [h.2.1, h.2.2.1]
    | now hn' hw' =>
      simp only [pyT, PyData.eqv, PyData.eqvAll, Bool.and_eq_true, beq_iff_eq] at h
      exact absurd h.1 (by decide)
    | node hk h1 h2 h3 => simp [pyT, PyData.eqv, PyData.eqvAll] at h
    | rank h1 h2 h3 h4 => simp [pyT, PyData.eqv, PyData.eqvAll] at h
  | d, _, .now hn hw, e, y, hy, f + 1, hf, hf', h => by
    cases hy with
    | now hn' hw' =>
      simp only [pyT, PyData.eqv, PyData.eqvAll, Bool.and_eq_true, beq_iff_eq] at h
      rw [h.2.1, h.2.2.1]
    | of hn' hw' =>
      simp only [pyT, PyData.eqv, PyData.eqvAll, Bool.and_eq_true, beq_iff_eq] at h
      exact absurd h.1 (by decide)
    | node hk h1 h2 h3 => simp [pyT, PyData.eqv, PyData.eqvAll] at h
    | rank h1 h2 h3 h4 => simp [pyT, PyData.eqv, PyData.eqvAll] at h
  | d + 1, _, .node (xs := xs) hk h1 h2 h3, e, y, hy, f + 1, hf, hf', h => by
    cases hy with
    | node hk' h1' h2' h3' =>
      simp only [pyT, PyData.eqv, PyData.eqvAll, Bool.and_eq_true, beq_iff_eq] at h
      rw [h.1, eqv_L xs _ (fun x hx y hy q => eqv_T d x (h3 x hx) _ y hy f (by omega) (by omega) q) h3' h.2.1]
    | of hn' hw' => simp [pyT, PyData.eqv, PyData.eqvAll] at h
    | now hn' hw' => simp [pyT, PyData.eqv, PyData.eqvAll] at h
    | rank h1 h2 h3 h4 => simp [pyT, PyData.eqv, PyData.eqvAll] at h
  | d + 1, _, .rank (xs := xs) h1 h2 h3 h4, e, y, hy, f + 1, hf, hf', h => by
    cases hy with
    | rank h1' h2' h3' h4' =>
      simp only [pyT, PyData.eqv, PyData.eqvAll, Bool.and_eq_true, beq_iff_eq] at h
      rw [h.2.1, eqv_L xs _ (fun x hx y hy q => eqv_T d x (h4 x hx) _ y hy f (by omega) (by omega) q) h4' h.2.2.1]
    | of hn' hw' => simp [pyT, PyData.eqv, PyData.eqvAll] at h
    | now hn' hw' => simp [pyT, PyData.eqv, PyData.eqvAll] at h
    | node hk h1 h2 h3 => simp [pyT, PyData.eqv, PyData.eqvAll] at h
theorem eqv_LR {f : Nat} : ∀ (xs : List D), (∀ x ∈ xs, PyData.eqv (pyT f x) (pyT f x) = true) → PyData.eqvAll (xs.map (pyT f)) (xs.map (pyT f)) = true
  | [], _ => by rw [List.map_nil]; unfold PyData.eqvAll; rfl
  | x :: xs, h => by
    rw [List.map_cons]
    unfold PyData.eqvAll
    rw [h x List.mem_cons_self, eqv_LR xs fun y hy => h y (List.mem_cons_of_mem _ hy)]
    rfl
theorem eqv_R : ∀ (d : Nat) (x : D), Gt d x → ∀ f, d + 1 ≤ f → PyData.eqv (pyT f x) (pyT f x) = true
  | d, _, hx, 0, hf => by omega
  | d, _, .of hn hw, f + 1, hf => by simp [pyT, PyData.eqv, PyData.eqvAll]
  | d, _, .now hn hw, f + 1, hf => by simp [pyT, PyData.eqv, PyData.eqvAll]
  | d + 1, _, .node (xs := xs) hk h1 h2 h, f + 1, hf => by
    simp only [pyT, PyData.eqv, PyData.eqvAll, Bool.and_eq_true, beq_iff_eq]
    exact ⟨trivial, eqv_LR xs fun x hx => eqv_R d x (h x hx) f (by omega), trivial⟩
  | d + 1, _, .rank (xs := xs) h1 h2 h3 h, f + 1, hf => by
    simp only [pyT, PyData.eqv, PyData.eqvAll, Bool.and_eq_true, beq_iff_eq]
    exact ⟨trivial, trivial, eqv_LR xs fun x hx => eqv_R d x (h x hx) f (by omega), trivial⟩
theorem eqv_iff {x y : D} (hx : Gt 2 x) (hy : Gt 2 y) : PyData.eqv (pyT 11 x) (pyT 11 y) = true ↔ x = y :=
  ⟨eqv_T 2 x hx 2 y hy 11 (by decide) (by decide), fun e => e ▸ eqv_R 2 x hx 11 (by decide)⟩
theorem py60 {x : D} {s : Sto} (hx : Gt 2 x) : toPy 60 s x = some (pyT 11 x) := toPy_T 2 x hx 11 (by decide) 54
end K94

/-! SA94: texts as codes: parts of texts, numbers, scanning. -/
namespace K94
open PySem L2 LW
open SX (S)
open TL (numL)
theorem S_tl (x : Str) : S x.cps.toList = x := SX.S_tl x
theorem S_cps (l : List Nat) : (S l).cps.toList = l := rfl
theorem S_app (a b : List Nat) : S a ++ S b = S (a ++ b) := SX.S_cat a b
def Asc (l : List Nat) : Prop := ∀ c ∈ l, c < 128
theorem Asc.ok {l : List Nat} (h : Asc l) : PyData.strOk (S l) = true := by
  rw [strOk_iff, S_cps]
  exact fun c hc => Nat.lt_trans (h c hc) (by decide)
theorem Asc.app {l m : List Nat} (h : Asc l) (h' : Asc m) : Asc (l ++ m) := fun c hc => (List.mem_append.mp hc).elim (h c) (h' c)
/-! ### parts of texts -/
theorem cut_at (p q : List Nat) (k : Nat) : cutS (S (p ++ q)) (some (p.length : Int)) (some ((p.length + k : Nat) : Int)) = S (q.take k) := by
  have hl : (S (p ++ q)).length = p.length + q.length := by rw [SX.S_len, List.length_append]
  unfold cutS
  rw [HT.sIx_nat, HT.sIx_nat, S_cps, hl, Nat.min_eq_left (Nat.le_add_right _ _), List.drop_left]
  have e : q.take (min (p.length + k) (p.length + q.length) - p.length) = q.take k := by
    rw [show min (p.length + k) (p.length + q.length) - p.length = min k q.length by omega]
    by_cases h : k ≤ q.length
    · rw [Nat.min_eq_left h]
    · rw [Nat.min_eq_right (by omega), List.take_of_length_le (Nat.le_refl _), List.take_of_length_le (by omega)]
  rw [e]
section
variable {s : Sto} {Q : D → Prop}
theorem u_cut {z : Str} {p q : List Nat} {k : Nat} {a b : Int} (hz : z = S (p ++ q)) (ha : a = (p.length : Int)) (hb : b = ((p.length + k : Nat) : Int)) (hl : p.length + q.length ≤ 1000000) (h : Q (.str (S (q.take k)))) : Od (slS (.str z) (some a) (some b) s) Q := by
  subst hz ha hb
  refine u_now ?_ h
  show (if (S (p ++ q)).length ≤ 1000000 then some (D.str (cutS (S (p ++ q)) _ _)) else none) = _
  rw [if_pos (by rw [SX.S_len, List.length_append]; exact hl), cut_at]
theorem u_cutTo {z : Str} {q : List Nat} (hz : z = S q) (hl : q.length ≤ 1000000) (h : Q (.str (S (q.take 1)))) : Od (slS (.str z) none (some 1) s) Q := by
  subst hz
  refine u_now ?_ h
  show (if (S q).length ≤ 1000000 then some (D.str (cutS (S q) _ _)) else none) = _
  rw [if_pos (by rw [SX.S_len]; exact hl)]
  have := cut_at [] q 1
  rw [List.nil_append] at this
  rw [← this]
  rfl
theorem u_cutFrom {z : Str} {c : Nat} {q : List Nat} (hz : z = S (c :: q)) (hl : q.length < 1000000) (h : Q (.str (S q))) : Od (slS (.str z) (some 1) none s) Q := by
  subst hz
  refine u_now ?_ h
  show (if (S (c :: q)).length ≤ 1000000 then some (D.str (cutS (S (c :: q)) _ _)) else none) = _
  rw [if_pos (by rw [SX.S_len, List.length_cons]; omega)]
  have e : cutS (S (c :: q)) (some 1) none = S q := by
    have h1 := cut_at [c] q q.length
    rw [List.take_length] at h1
    rw [← h1]
    unfold cutS
    rw [show (1 : Int) = ((1 : Nat) : Int) from rfl]
    have h2 : HT.sIx (S ([c] ++ q)).length (S ([c] ++ q)).length (some (([c].length + q.length : Nat) : Int)) = (S ([c] ++ q)).length := by
      rw [HT.sIx_nat, SX.S_len]
      simp
      omega
    rw [h2]
    rfl
  rw [e]
theorem u_ixS {z : Str} {p q : List Nat} {c : Nat} {a : Int} (hz : z = S (p ++ c :: q)) (ha : a = (p.length : Int)) (hl : p.length + q.length < 1000000) (h : Q (.str (S [c]))) : Od (oIx (.str z) (.int a) s) Q := by
  subst hz ha
  refine u_now ?_ h
  unfold oIx
  dsimp only
  rw [if_pos (by rw [SX.S_len, List.length_append, List.length_cons]; omega)]
  have e : atI (S (p ++ c :: q)).cps.toList (p.length : Int) = some c := by
    rw [S_cps]
    unfold atI ixN
    rw [if_pos (by omega), if_pos (by rw [List.length_append, List.length_cons]; omega)]
    show (p ++ c :: q)[((p.length : Int)).toNat]? = _
    rw [Int.toNat_natCast, List.getElem?_append_right (Nat.le_refl _), Nat.sub_self]
    rfl
  rw [e]
theorem u_addC {a b : List Nat} {x y : Str} (hx : x = S a) (hy : y = S b) (hl : a.length + b.length ≤ 1000000) (h : Q (.str (S (a ++ b)))) : Od (oAdd (.str x) (.str y) s) Q := by
  subst hx hy
  refine u_addS (by rw [SX.S_len, SX.S_len]; exact hl) ?_
  rw [S_app]
  exact h
theorem u_in1 {z t : Str} {c : Nat} (hz : z = S [c]) (h : Q (.bl (decide (c ∈ t.cps.toList)))) : Od (oInS false (.str z) (.str t) s) Q := by
  subst hz
  exact u_now (a := .bl (decide (c ∈ t.cps.toList))) rfl h
end
/-! ### numbers -/
def nu (i : Int) : List Nat := if i < 0 then 45 :: numL i.natAbs else numL i.natAbs
theorem nu_eq (i : Int) : Str.ofString (toString i) = S (nu i) := by
  cases i with
  | ofNat n => exact SX.num_S n
  | negSucc n =>
    rw [show nu (Int.negSucc n) = 45 :: numL (n + 1) from if_pos (Int.negSucc_lt_zero n)]
    apply TL.ext_tl
    rw [TL.tl_ofString]
    show ("-" ++ Nat.repr (n + 1)).toList.map Char.toNat = 45 :: numL (n + 1)
    have h := TL.tl_num (n + 1)
    rw [TL.tl_ofString] at h
    have h : (Nat.repr (n + 1)).toList.map Char.toNat = numL (n + 1) := h
    rw [String.toList_append, List.map_append, h]
    rfl
theorem numL_asc (n : Nat) : ∀ c ∈ numL n, 48 ≤ c ∧ c ≤ 57 := fun c hc => TL.numL_digits n c hc
theorem nu_asc (i : Int) : Asc (nu i) := by
  intro c hc
  unfold nu at hc
  split at hc
  · rcases List.mem_cons.mp hc with rfl | hc
    · decide
    · have := numL_asc _ c hc; omega
  · have := numL_asc _ c hc; omega
theorem nu_len {i : Int} (h : i.natAbs < 10 ^ 12) : (nu i).length ≤ 13 := by
  have := TL.numL_len (k := 12) (by decide) h
  unfold nu
  split
  · rw [List.length_cons]; omega
  · omega
theorem numL_head : ∀ (n : Nat), 0 < n → ∃ c r, numL n = c :: r ∧ c ≠ 48 := by
  intro n
  induction n using Nat.strongRecOn with
  | _ n ih =>
    intro h
    by_cases hn : n < 10
    · exact ⟨48 + n, [], TL.numL_lt hn, by omega⟩
    · obtain ⟨c, r, e, hc⟩ := ih (n / 10) (by omega) (by omega)
      exact ⟨c, r ++ [48 + n % 10], by rw [TL.numL_step (by omega), e]; rfl, hc⟩
end K94


/-! SB94: a name and a number, read at a place. -/
namespace LW
open PySem L2
theorem z_wl {cond : SB} {body : SS} {n : Nat} {env : LW.Env} {st : Sto} {QS : Out → Sto → Prop} (h : Ok (cond env st) fun b s1 => if b = true then Ok (body env s1) fun o s2 => ∃ e2, o = .nx e2 ∧ Ok (wLoop cond body n e2 s2) QS else QS (.nx env) s1) : Ok (wLoop cond body (n + 1) env st) QS := by
  obtain ⟨b, s1, e1, h⟩ := h
  cases b with
  | false => exact wl_no e1 h
  | true =>
    obtain ⟨o, s2, e2, e, rfl, q⟩ := h
    exact wl_yes e1 e2 q
end LW
namespace K94
open PySem L2 LW
local macro_rules | `(tactic| bv_omega) => `(tactic| (repeat (first | with_reducible first | refine z_var (by with_unfolding_all rfl) ?_ | refine z_pk (by with_unfolding_all rfl) ?_ | refine z_pkO (by with_unfolding_all rfl) ?_ | refine z_retO (by with_unfolding_all rfl) ?_ | refine z_dictO (by with_unfolding_all rfl) ?_ | refine z_c ?_ | refine z_op ?_ | refine z_nil ?_ | refine z_cons ?_ | refine z_tup ?_ | refine z_lst ?_ | refine z_L ?_ | refine z_bi ?_ | refine z_call ?_ | refine z_meth ?_ | refine z_prop ?_ | refine z_fld ?_ | refine z_make ?_ | refine z_not ?_ | refine z_neg ?_ | refine z_bits ?_ | refine t_of ?_ | refine t_not ?_ | refine z_slN ?_ | refine z_oN ?_ | refine z_oS ?_ | refine z_snil ?_ | refine z_seq ?_ | refine z_set ?_ | refine z_own ?_ | refine z_ret ?_ | refine z_retC ?_ | refine z_drop ?_ | refine z_frz ?_ | refine z_app ?_ | refine z_appC ?_ | refine z_putC ?_ | refine z_for ?_ | refine z_lc ?_ | refine z_yes ?_ | refine z_kv ?_ | refine z_ko ?_ | refine z_par ?_ | refine z_unp ?_ | refine z_sfld ?_ | refine z_rg1 ?_ | refine z_rg2 ?_ | refine z_rg3 ?_ | refine z_and ?_ | refine z_or ?_ | refine z_eif ?_ | refine t_and ?_ | refine t_or ?_ | refine z_sif ?_ | refine u_add ?_ | refine u_sub ?_ | refine u_lt ?_ | refine u_le ?_ | refine u_gt ?_ | refine u_ge ?_ | refine u_isN ?_ | refine u_notN ?_ | refine z_par3 ?_ | refine z_dcl ?_ | refine z_cel ?_ | refine z_putDC ?_ | refine z_clrC ?_ | refine z_ownD ?_ | refine z_lenSN ?_ | refine z_D ?_ | refine z_dComp ?_ | refine z_lc2 ?_ | refine z_sn ?_ | refine z_makeC ?_ | refine z_methC ?_ | refine z_fldC ?_ | refine z_sfldC ?_ | refine z_xSet ?_ | refine z_methX ?_ | refine z_methCX ?_ | refine z_xIfE ?_ | refine z_xEL ?_ | refine z_xPar2 (by decide) ?_ | refine z_kD2 ?_ | refine z_par2 (by decide) ?_ | refine z_d0 ?_ | refine z_xBare ?_ | refine z_xFrz ?_ | refine z_xFor ?_ | refine z_sortIt ?_ | refine z_lenO ?_ | refine z_xSeq ?_ | refine z_xIf ?_ | refine z_xRaise ?_ | refine z_xL ?_ | refine z_xNil ?_ | refine z_xDrop ?_ | refine z_xRet ?_ | refine z_eCallX ?_ | refine z_sTry ?_ | refine z_DT ?_ | refine z_t0 ?_ | refine z_Td ?_ | refine z_ownT ?_ | refine z_putT ?_ | refine z_frzT ?_ | refine z_par3T ?_ | refine z_toT ?_ | refine z_join ?_ | refine z_sw3 ?_ | (with_reducible refine u_mul ?_ ?_; next => first | exact mulC_r (by decide) (by decide) | exact mulC_l (by decide) (by decide) | exact mulC_r (by omega) (by omega) | exact mulC_l (by omega) (by omega)) | (with_reducible refine u_mod ?_ ?_; next => first | decide | assumption | omega) | (with_reducible refine u_div ?_ ?_; next => first | exact divC_s (by decide) (by decide) | exact divC_s (by omega) (by omega)))))
open SX (S)
open TL (numL pre)
theorem S_inj {a b : List Nat} (h : S a = S b) : a = b := SX.S_inj h
theorem lit_minus : ("-" : Str) = S [45] := by decide +kernel
theorem lit_nil : ("" : Str) = S [] := by decide +kernel
theorem lit_0 : ("0" : Str) = S [48] := by decide +kernel
theorem lit_sp : (" " : Str) = S [32] := by decide +kernel
theorem lit_par : ("(" : Str) = S [40] := by decide +kernel
theorem lit_end : (")" : Str) = S [41] := by decide +kernel
theorem lit_com : (", " : Str) = S [44, 32] := by decide +kernel
theorem lit_now : ("now " : Str) = S [110, 111, 119, 32] := by decide +kernel
theorem lit_rank : ("rank" : Str) = S [114, 97, 110, 107] := by decide +kernel
theorem lit_rank_ : ("rank " : Str) = S [114, 97, 110, 107, 32] := by decide +kernel
theorem lit_first : ("first" : Str) = S [102, 105, 114, 115, 116] := by decide +kernel
theorem lit_last : ("last" : Str) = S [108, 97, 115, 116] := by decide +kernel
theorem let_rng : ∀ c ∈ letters.cps.toList, 97 ≤ c ∧ c ≤ 122 := by decide +kernel
abbrev digW : Str := "0123456789"
theorem dig_in {c : Nat} (h0 : 48 ≤ c) (h1 : c ≤ 57) : c ∈ digW.cps.toList := by
  have : ∀ k : Nat, k < 10 → 48 + k ∈ digW.cps.toList := by decide +kernel
  have := this (c - 48) (by omega)
  rwa [show 48 + (c - 48) = c by omega] at this
abbrev dimW : Str := "-0123456789"
theorem dim_in {c : Nat} (h : c = 45 ∨ 48 ≤ c ∧ c ≤ 57) : c ∈ dimW.cps.toList := by
  rcases h with rfl | ⟨h0, h1⟩
  · decide +kernel
  · have : ∀ k : Nat, k < 10 → 48 + k ∈ dimW.cps.toList := by decide +kernel
    have := this (c - 48) (by omega)
    rwa [show 48 + (c - 48) = c by omega] at this
theorem dim_rng : ∀ c ∈ dimW.cps.toList, c = 45 ∨ 48 ≤ c ∧ c ≤ 57 := by decide +kernel
theorem let_sp : 32 ∉ letters.cps.toList := by decide +kernel
/-! ### startswith -/
theorem sw_at (p q w : List Nat) : Txt.startswith3 (S (p ++ q)) (S w) (p.length : Int) = pre w q := by
  have hf : fromIndex (S (p ++ q)).length (p.length : Int) = p.length := by
    unfold fromIndex
    rw [if_neg (by omega)]
    omega
  unfold Txt.startswith3
  rw [hf, StrLaws.subAt_eq, SX.S_len, SX.S_len, List.length_append]
  show (decide (p.length + w.length ≤ p.length + q.length) && (((p ++ q).drop p.length).take w.length == w)) = (q.take w.length == w)
  rw [List.drop_left]
  by_cases h : q.take w.length = w
  · have h2 : w.length ≤ q.length := by
      have := congrArg List.length h
      rw [List.length_take] at this
      omega
    rw [decide_eq_true (by omega)]
    rfl
  · have : (q.take w.length == w) = false := beq_eq_false_iff_ne.mpr h
    rw [this, Bool.and_false]
theorem pre_no {w m r : List Nat} (hw : ∀ c ∈ w, 97 ≤ c) (hm : ∀ c ∈ m, 97 ≤ c) : pre (w ++ [40]) (m ++ 32 :: r) = false := by
  unfold TL.pre
  refine beq_eq_false_iff_ne.mpr fun h => ?_
  have g : ∀ i, i < w.length + 1 → (m ++ 32 :: r)[i]? = (w ++ [40])[i]? := fun i hi => by
    rw [← h, List.getElem?_take, if_pos (by rw [List.length_append, List.length_singleton]; exact hi)]
  rcases Nat.lt_trichotomy w.length m.length with l | l | l
  · have e := g w.length (by omega)
    rw [List.getElem?_append_left l, List.getElem?_append_right (Nat.le_refl _), Nat.sub_self, List.getElem?_eq_getElem l] at e
    have := hm _ (List.getElem_mem l)
    have e : m[w.length] = 40 := Option.some.inj e
    omega
  · have e := g w.length (by omega)
    rw [List.getElem?_append_right (by omega), List.getElem?_append_right (Nat.le_refl _), Nat.sub_self, l, Nat.sub_self] at e
    cases e
  · have e := g m.length (by omega)
    rw [List.getElem?_append_right (Nat.le_refl _), Nat.sub_self, List.getElem?_append_left l, List.getElem?_eq_getElem l] at e
    have := hw _ (List.getElem_mem l)
    have e : 32 = w[m.length] := Option.some.inj e
    omega
theorem pre_now {m r : List Nat} (hm : ∀ c ∈ m, 97 ≤ c) (h : pre [110, 111, 119, 32] (m ++ 32 :: r) = true) : m = [110, 111, 119] := by
  unfold TL.pre at h
  have h := eq_of_beq h
  match m, hm, h with
  | [], _, h => simp at h
  | [a], _, h => simp at h
  | [a, b], _, h => simp at h
  | [a, b, c], _, h => simp at h; simp [h]
  | a :: b :: c :: d :: t, hm, h =>
    have := hm d (by simp)
    simp at h
    omega
/-! ### scanning -/
theorem u_lenC {z : Str} {s : Sto} {Q : D → Prop} (h : z.length < 1000000) (q : Q (.int z.length)) : Od (gLen [.str z] s) Q := u_now (a := .int z.length) (by unfold gLen; exact if_pos (by omega)) q
abbrev scC (i : Nat) (ab : Str) : SB := bAnd (bOf (eOp oLt (ePeek i) (eBi gLen (aCons (ePeek 0) (aNil))))) (bOf (eOp (oInS false) (eOp oIx (ePeek 0) (ePeek i)) (eC (.str ab))))
abbrev scB (i : Nat) : SS := sSet i (eOp oAdd (ePeek i) (eC (.int 1)))
theorem set_idE {i : Nat} {s : Sl} {env : LW.Env} (h : env[i]? = some s) : env.set i s = env := by
  obtain ⟨hi, e⟩ := List.getElem?_eq_some_iff.mp h
  rw [← e]
  exact List.set_getElem_self hi
theorem scan {ab : Str} {i : Nat} {z : Str} {st : Sto} (hi0 : i ≠ 0) : ∀ (m p r : List Nat) (n : Nat) (env : LW.Env), z = S (p ++ (m ++ r)) → p.length + (m.length + r.length) < 1000000 → (∀ c ∈ m, c ∈ ab.cps.toList) → (∀ c r', r = c :: r' → c ∉ ab.cps.toList) → m.length < n → env[0]? = some (.val (.str z)) → env[i]? = some (.val (.int p.length)) →
    Ok (wLoop (scC i ab) (scB i) n env st) fun o s => s = st ∧ o = .nx (env.set i (.val (.int ((p.length + m.length : Nat) : Int))))
  | m, p, r, 0, env, _, _, _, _, l, _, _ => by omega
  | m, p, r, n + 1, env, hz, hl, hm, hr, l, h0, hi => by
    have zl : z.length = p.length + (m.length + r.length) := by rw [hz, SX.S_len, List.length_append, List.length_append]
    refine z_wl ?_
    refine t_and ?_
    refine t_of ?_
    refine z_op ?_
    refine z_pk hi ?_
    refine z_bi ?_
    refine z_cons ?_
    refine z_pk h0 ?_
    refine z_nil ?_
    refine u_lenC (by omega) ?_
    refine u_lt ?_
    cases m with
    | nil =>
      have e0 : env.set i (.val (.int ((p.length + ([] : List Nat).length : Nat) : Int))) = env := set_idE hi
      cases r with
      | nil =>
        refine b_f (decide_eq_false (by rw [zl]; simp)) ?_
        refine b_f rfl ?_
        exact ⟨rfl, by rw [e0]⟩
      | cons c r =>
        refine b_t (decide_eq_true (by rw [zl, List.length_cons]; simp; omega)) ?_
        refine t_of ?_
        refine z_op ?_
        refine z_op ?_
        refine z_pk h0 ?_
        refine z_pk hi ?_
        refine u_ixS (p := p) (q := r) (c := c) hz rfl (by simp at hl; omega) ?_
        refine z_c ?_
        refine u_in1 rfl ?_
        refine b_f (decide_eq_false (hr c r rfl)) ?_
        exact ⟨rfl, by rw [e0]⟩
    | cons c m =>
      rw [List.length_cons] at l hl zl
      refine b_t (decide_eq_true (by rw [zl]; omega)) ?_
      refine t_of ?_
      refine z_op ?_
      refine z_op ?_
      refine z_pk h0 ?_
      refine z_pk hi ?_
      refine u_ixS (p := p) (q := m ++ r) (c := c) hz rfl (by rw [List.length_append]; omega) ?_
      refine z_c ?_
      refine u_in1 rfl ?_
      refine b_t (decide_eq_true (hm c (by simp))) ?_
      refine z_set ?_
      refine z_op ?_
      refine z_pk hi ?_
      refine z_c ?_
      refine u_add ?_
      have il := (List.getElem?_eq_some_iff.mp hi).1
      refine ⟨_, rfl, ?_⟩
      refine (scan (z := z) hi0 m (p ++ [c]) r n _ (by rw [hz, List.append_assoc]; rfl) (by rw [List.length_append, List.length_singleton]; omega) (fun y hy => hm y (by simp [hy])) hr (by omega) (by rw [List.getElem?_set_ne hi0]; exact h0) (by rw [List.getElem?_set_self il, List.length_append]; rfl)).mono ?_
      rintro o s ⟨rfl, rfl⟩
      refine ⟨rfl, ?_⟩
      rw [List.set_set, List.length_append, List.length_singleton, List.length_cons]
      congr 4
      omega
/-! ### numbers -/
theorem wholeof_ok {i : Int} (hi : i.natAbs < 10 ^ 12) {st : Sto} : m_whole_of [.str (S (nu i))] st = some (.int i, st) := by
  have nl := nu_len hi
  have dl := TL.numL_len (k := 12) (by decide) hi
  have da := numL_asc i.natAbs
  have dne := TL.numL_ne i.natAbs
  have dasc : Asc (numL i.natAbs) := fun c hc => by have := da c hc; omega
  refine Ok.eq (z_fn rfl ?_)
  unfold b_whole_of
  refine z_seq ?_
  refine z_set ?_
  refine Ok.mono (Q := fun d s => d = .str (S (numL i.natAbs)) ∧ s = st) ?_ ?_
  · refine z_eif ?_
    refine t_of ?_
    bv_omega
    refine u_cutTo rfl (by omega) ?_
    bv_omega
    refine u_eqW (Asc.ok fun c hc => nu_asc i c (List.mem_of_mem_take hc)) (strOk_w "-") ?_
    by_cases h : i < 0
    · have e : nu i = 45 :: numL i.natAbs := if_pos h
      rw [e]
      refine b_t (decide_eq_true (by show S [45] = _; exact lit_minus.symm)) ?_
      bv_omega
      refine u_cutFrom (c := 45) rfl (by omega) ?_
      exact ⟨rfl, rfl⟩
    · have e : nu i = numL i.natAbs := if_neg h
      rw [e]
      obtain ⟨c, r, ec⟩ : ∃ c r, numL i.natAbs = c :: r := by
        cases hc : numL i.natAbs with
        | nil => exact absurd hc dne
        | cons c r => exact ⟨c, r, rfl⟩
      refine b_f (decide_eq_false fun z => ?_) ?_
      · rw [lit_minus, ec] at z
        have z := S_inj z
        have := da c (by rw [ec]; simp)
        simp at z
        omega
      · bv_omega
        exact ⟨rfl, rfl⟩
  rintro d s ⟨rfl, rfl⟩
  obtain ⟨c, r, ec⟩ : ∃ c r, numL i.natAbs = c :: r := by
    cases hc : numL i.natAbs with
    | nil => exact absurd hc dne
    | cons c r => exact ⟨c, r, rfl⟩
  bv_omega
  refine u_eqW dasc.ok (strOk_w "") ?_
  refine b_f (decide_eq_false fun z => ?_) ?_
  · rw [lit_nil] at z
    exact dne (S_inj z)
  bv_omega
  refine z_sgn ?_
  bv_omega
  refine ⟨_, rfl, ?_, ?_⟩
  · show (signsD (S (numL i.natAbs))).length ≤ 1000000
    unfold signsD
    rw [List.length_map, S_cps]
    omega
  refine Ok.use (comp_none rfl _ fun x hx => ?_) ?_
  · obtain ⟨c, hc, rfl⟩ := List.mem_map.mp hx
    refine ⟨_, rfl, ?_⟩
    bv_omega
    have := da c hc
    refine u_now (a := .bl (!decide (c ∈ digW.cps.toList))) rfl ?_
    rw [decide_eq_true (dig_in this.1 this.2)]
    exact ⟨rfl, rfl⟩
  bv_omega
  refine ⟨by simp, ?_⟩
  refine u_neNil (ps := []) rfl ?_
  refine b_f rfl ?_
  bv_omega
  refine u_ixS (p := []) (q := r) (c := c) (by rw [ec]; rfl) rfl (by rw [ec] at dl; simp at dl ⊢; omega) ?_
  bv_omega
  have c57 := da c (by rw [ec]; simp)
  refine u_eqW (Asc.ok fun y hy => by rw [List.mem_singleton.mp hy]; omega) (strOk_w "0") ?_
  have last : Ok (eBi gIntS (aCons (ePeek 0) aNil) ((env0 3 [D.str (S (nu i))]).set 1 (Sl.val (D.str (S (numL i.natAbs))))) s) fun d s' => d = .int i ∧ s' = s := by
    bv_omega
    refine u_now (a := .int i) ?_ ⟨rfl, rfl⟩
    unfold gIntS
    dsimp only
    rw [if_pos (by rw [SX.S_len]; omega)]
    have e : intText? (S (nu i)) = some i := by
      by_cases h : i < 0
      · have e : nu i = 45 :: numL i.natAbs := if_pos h
        rw [PySem.intText_neg (cs := numL i.natAbs) (by rw [e]) (TL.numL_digits _) dne (by rw [SX.S_len]; omega), TL.numL_val]
        congr 1
        omega
      · have e : nu i = numL i.natAbs := if_neg h
        rw [e, ← SX.num_S, TL.int_num (by omega)]
        congr 1
        omega
    rw [e]
  by_cases h0 : c = 48
  · refine b_t (decide_eq_true (by rw [h0]; exact lit_0.symm)) ?_
    bv_omega
    have i0 : i = 0 := by
      by_cases z : i.natAbs = 0
      · omega
      · obtain ⟨c', r', e', hc'⟩ := numL_head i.natAbs (by omega)
        rw [ec] at e'
        cases e'
        exact absurd h0 hc'
    subst i0
    refine u_neW (nu_asc 0).ok (strOk_w "0") ?_
    have e0 : S (nu 0) = "0" := by
      rw [lit_0]
      show S (numL 0) = _
      rw [TL.numL_lt (by decide)]
    rw [decide_eq_true e0]
    refine b_f rfl ?_
    exact last
  · refine b_f (decide_eq_false fun z => ?_) ?_
    · rw [lit_0] at z
      have := S_inj z
      simp at this
      exact h0 this
    · refine b_f rfl ?_
      exact last
/-! ### a name and a number -/
theorem Nm.let97 {n : Str} (h : Nm n) : ∀ c ∈ n.cps.toList, 97 ≤ c := fun c hc => (let_rng c (h.abc c hc)).1
theorem Nm.len {n : Str} : n.cps.toList.length = n.length := Array.length_toList
/-- no digit and no minus ahead -/
def Nod (r : List Nat) : Prop := ∀ c r', r = c :: r' → c ∉ dimW.cps.toList
theorem nu_dim {i : Int} : ∀ c ∈ nu i, c ∈ dimW.cps.toList := fun c hc => by
  refine dim_in ?_
  unfold nu at hc
  split at hc
  · rcases List.mem_cons.mp hc with rfl | hc
    · exact .inl rfl
    · exact .inr (numL_asc _ c hc)
  · exact .inr (numL_asc _ c hc)
theorem named_ok {p r : List Nat} {n : Str} {i : Int} {z : Str} (hz : z = S (p ++ (n.cps.toList ++ 32 :: (nu i ++ r)))) (hn : Nm n) (hi : i.natAbs < 10 ^ 12) (hr : Nod r) (hl : p.length + r.length < 900000) {a : Int} (ha : a = (p.length : Int)) {st : Sto} :
    m_named_at [.str z, .int a] st = some (.tup [.str n, .int i, .int ((p.length + (n.length + 1 + (nu i).length) : Nat) : Int)], st) := by
  subst ha
  have nl := nu_len hi
  have n8 := hn.hi
  have n1 := hn.lo
  have nn := Nm.len (n := n)
  refine Ok.eq (z_fn rfl ?_)
  unfold b_named_at
  bv_omega
  refine (scan (ab := letters) (i := 2) (z := z) (by decide) n.cps.toList p (32 :: (nu i ++ r)) 16 _ hz (by rw [List.length_cons, List.length_append]; omega) hn.abc (fun c r' e => by cases e; exact let_sp) (by omega) rfl rfl).mono ?_
  rintro o s ⟨rfl, rfl⟩
  rw [nn]
  bv_omega
  have ez : z = S ((p ++ (n.cps.toList ++ [32])) ++ (nu i ++ r)) := by
    rw [hz]
    congr 1
    simp
  have pl : (p ++ (n.cps.toList ++ [32])).length = p.length + (n.length + 1) := by
    rw [List.length_append, List.length_append, nn, List.length_singleton]
  refine (scan (ab := dimW) (i := 3) (z := z) (by decide) (nu i) (p ++ (n.cps.toList ++ [32])) r 16 _ ez (by rw [pl]; omega) nu_dim hr (by omega) rfl ?_).mono ?_
  · rw [pl]
    show some (Sl.val (.int (((p.length + n.length : Nat) : Int) + 1))) = _
    congr 3
  rintro o s ⟨rfl, rfl⟩
  rw [pl]
  bv_omega
  refine u_cut (p := p ++ (n.cps.toList ++ [32])) (q := nu i ++ r) (k := (nu i).length) ez (by rw [pl]; omega) (by rw [pl]) (by rw [pl, List.length_append]; omega) ?_
  rw [List.take_left]
  bv_omega
  refine Ok.use (wholeof_ok hi) ?_
  bv_omega
  refine u_cut (p := p) (q := n.cps.toList ++ 32 :: (nu i ++ r)) (k := n.length) hz rfl rfl (by rw [List.length_append, List.length_cons, List.length_append]; omega) ?_
  rw [← nn, List.take_left, S_tl]
  bv_omega
  refine Ok.use (name_ok hn) ?_
  refine b_f rfl ?_
  bv_omega
  refine u_cut (p := p ++ n.cps.toList) (q := 32 :: (nu i ++ r)) (k := 1) (by rw [hz]; congr 1; simp) (by rw [List.length_append]) (by rw [List.length_append]; omega) (by rw [List.length_append, List.length_cons, List.length_append]; omega) ?_
  bv_omega
  refine u_neW (Asc.ok fun c hc => by rw [List.mem_singleton.mp hc]; decide) (strOk_w " ") ?_
  rw [decide_eq_true (show S (List.take 1 (32 :: (nu i ++ r))) = (" " : Str) from lit_sp.symm)]
  refine b_f rfl ?_
  bv_omega
  refine b_f rfl ?_
  bv_omega
  refine u_cut (p := p) (q := n.cps.toList ++ 32 :: (nu i ++ r)) (k := n.cps.toList.length) hz rfl rfl (by rw [List.length_append, List.length_cons, List.length_append]; omega) ?_
  rw [List.take_left, S_tl]
  bv_omega
  refine ⟨by simp, ?_, rfl⟩
  rw [Nat.add_assoc p.length]
end K94

/-! TC94: the texts of terms. -/
namespace K94
open PySem L2 LW
local macro_rules | `(tactic| bv_omega) => `(tactic| (repeat (first | with_reducible first | refine z_var (by with_unfolding_all rfl) ?_ | refine z_pk (by with_unfolding_all rfl) ?_ | refine z_pkO (by with_unfolding_all rfl) ?_ | refine z_retO (by with_unfolding_all rfl) ?_ | refine z_dictO (by with_unfolding_all rfl) ?_ | refine z_c ?_ | refine z_op ?_ | refine z_nil ?_ | refine z_cons ?_ | refine z_tup ?_ | refine z_lst ?_ | refine z_L ?_ | refine z_bi ?_ | refine z_call ?_ | refine z_meth ?_ | refine z_prop ?_ | refine z_fld ?_ | refine z_make ?_ | refine z_not ?_ | refine z_neg ?_ | refine z_bits ?_ | refine t_of ?_ | refine t_not ?_ | refine z_slN ?_ | refine z_oN ?_ | refine z_oS ?_ | refine z_snil ?_ | refine z_seq ?_ | refine z_set ?_ | refine z_own ?_ | refine z_ret ?_ | refine z_retC ?_ | refine z_drop ?_ | refine z_frz ?_ | refine z_app ?_ | refine z_appC ?_ | refine z_putC ?_ | refine z_for ?_ | refine z_lc ?_ | refine z_yes ?_ | refine z_kv ?_ | refine z_ko ?_ | refine z_par ?_ | refine z_unp ?_ | refine z_sfld ?_ | refine z_rg1 ?_ | refine z_rg2 ?_ | refine z_rg3 ?_ | refine z_and ?_ | refine z_or ?_ | refine z_eif ?_ | refine t_and ?_ | refine t_or ?_ | refine z_sif ?_ | refine u_add ?_ | refine u_sub ?_ | refine u_lt ?_ | refine u_le ?_ | refine u_gt ?_ | refine u_ge ?_ | refine u_isN ?_ | refine u_notN ?_ | refine z_par3 ?_ | refine z_dcl ?_ | refine z_cel ?_ | refine z_putDC ?_ | refine z_clrC ?_ | refine z_ownD ?_ | refine z_lenSN ?_ | refine z_D ?_ | refine z_dComp ?_ | refine z_lc2 ?_ | refine z_sn ?_ | refine z_makeC ?_ | refine z_methC ?_ | refine z_fldC ?_ | refine z_sfldC ?_ | refine z_xSet ?_ | refine z_methX ?_ | refine z_methCX ?_ | refine z_xIfE ?_ | refine z_xEL ?_ | refine z_xPar2 (by decide) ?_ | refine z_kD2 ?_ | refine z_par2 (by decide) ?_ | refine z_d0 ?_ | refine z_xBare ?_ | refine z_xFrz ?_ | refine z_xFor ?_ | refine z_sortIt ?_ | refine z_lenO ?_ | refine z_xSeq ?_ | refine z_xIf ?_ | refine z_xRaise ?_ | refine z_xL ?_ | refine z_xNil ?_ | refine z_xDrop ?_ | refine z_xRet ?_ | refine z_eCallX ?_ | refine z_sTry ?_ | refine z_DT ?_ | refine z_t0 ?_ | refine z_Td ?_ | refine z_ownT ?_ | refine z_putT ?_ | refine z_frzT ?_ | refine z_par3T ?_ | refine z_toT ?_ | refine z_join ?_ | refine z_sw3 ?_ | (with_reducible refine u_mul ?_ ?_; next => first | exact mulC_r (by decide) (by decide) | exact mulC_l (by decide) (by decide) | exact mulC_r (by omega) (by omega) | exact mulC_l (by omega) (by omega)) | (with_reducible refine u_mod ?_ ?_; next => first | decide | assumption | omega) | (with_reducible refine u_div ?_ ?_; next => first | exact divC_s (by decide) (by decide) | exact divC_s (by omega) (by omega)))))
open SX (S)
open TL (numL pre joinL)
def cx : Nat → D → List Nat
  | 0 => fun _ => []
  | n + 1 => fun x => match x with
    | .tup [.str k, .str a, .int c] => (if k = "of" then [] else [110, 111, 119, 32]) ++ (a.cps.toList ++ 32 :: nu c)
    | .tup [.str k, .lst xs] => k.cps.toList ++ 40 :: (joinL [44, 32] (xs.map (cx n)) ++ [41])
    | .tup [.str k, .int r, .lst xs] => (k.cps.toList ++ 32 :: nu r) ++ 40 :: (joinL [44, 32] (xs.map (cx n)) ++ [41])
    | _ => []
theorem joinL_len {a : List Nat} {B : Nat} : ∀ {ls : List (List Nat)}, (∀ l ∈ ls, l.length ≤ B) → (joinL a ls).length ≤ (B + a.length) * ls.length
  | [], _ => Nat.zero_le _
  | [p], h => by
    show p.length ≤ (B + a.length) * 1
    have := h p (by simp)
    omega
  | p :: q :: r, h => by
    show (p ++ (a ++ joinL a (q :: r))).length ≤ _
    have h1 := h p (by simp)
    have h2 := joinL_len (a := a) (ls := q :: r) fun l hl => h l (by simp [List.mem_cons.mp hl])
    rw [List.length_append, List.length_append]
    rw [List.length_cons (a := p), Nat.mul_succ]
    omega
def Bc : Nat → Nat
  | 0 => 40
  | d + 1 => 2 * Bc d + 40
theorem two_le {xs : List D} {f : Nat} {B : Nat} (h2 : xs.length ≤ 2) (h : ∀ x ∈ xs, (cx f x).length ≤ B) : (joinL [44, 32] (xs.map (cx f))).length ≤ 2 * B + 4 := by
  have := joinL_len (a := [44, 32]) (B := B) (ls := xs.map (cx f)) fun l hl => by
    obtain ⟨x, hx, rfl⟩ := List.mem_map.mp hl
    exact h x hx
  rw [List.length_map] at this
  have h3 : (B + [44, 32].length) * xs.length ≤ (B + 2) * 2 := Nat.mul_le_mul (Nat.le_refl _) h2
  omega
theorem cx_len : ∀ (d : Nat) (x : D), Gt d x → ∀ f, d + 1 ≤ f → (cx f x).length ≤ Bc d
  | d, _, hx, 0, hf => by omega
  | d, _, .of (n := n) (w := w) hn hw, f + 1, hf => by
    have := hn.hi; have := nu_len hw; have := Nm.len (n := n)
    have b : 40 ≤ Bc d := by cases d with
      | zero => exact Nat.le_refl _
      | succ d => show 40 ≤ 2 * Bc d + 40; omega
    show ([] ++ (n.cps.toList ++ 32 :: nu w)).length ≤ _
    rw [List.nil_append, List.length_append, List.length_cons]
    omega
  | d, _, .now (n := n) (w := w) hn hw, f + 1, hf => by
    have := hn.hi; have := nu_len hw; have := Nm.len (n := n)
    have b : 40 ≤ Bc d := by cases d with
      | zero => exact Nat.le_refl _
      | succ d => show 40 ≤ 2 * Bc d + 40; omega
    show ([110, 111, 119, 32] ++ (n.cps.toList ++ 32 :: nu w)).length ≤ _
    simp only [List.length_append, List.length_cons, List.length_nil]
    omega
  | d + 1, _, .node (k := k) (xs := xs) hk h1 h2 h, f + 1, hf => by
    have := two_le h2 fun x hx => cx_len d x (h x hx) f (by omega)
    have hk5 : k.cps.toList.length ≤ 5 := by rcases hk with rfl | rfl <;> decide +kernel
    show (k.cps.toList ++ 40 :: (joinL [44, 32] (xs.map (cx f)) ++ [41])).length ≤ 2 * Bc d + 40
    rw [List.length_append, List.length_cons, List.length_append, List.length_singleton]
    omega
  | d + 1, _, .rank (r := r) (xs := xs) h1 h2 h3 h, f + 1, hf => by
    have := two_le h3 fun x hx => cx_len d x (h x hx) f (by omega)
    have := nu_len (i := r) (Nat.lt_of_lt_of_le (m := 3) (by omega) (by decide))
    have hk5 : ("rank" : Str).cps.toList.length = 4 := by decide +kernel
    show ((("rank" : Str).cps.toList ++ 32 :: nu r) ++ 40 :: (joinL [44, 32] (xs.map (cx f)) ++ [41])).length ≤ 2 * Bc d + 40
    rw [List.length_append, List.length_append, List.length_cons, List.length_cons, List.length_append, List.length_singleton]
    omega
theorem cx_len2 {d f : Nat} {x : D} (h : Gt d x) (hd : d ≤ 2) (hf : d + 1 ≤ f) : (cx f x).length ≤ 400 := by
  have := cx_len d x h f hf
  have : Bc d ≤ 400 := by
    have : d = 0 ∨ d = 1 ∨ d = 2 := by omega
    rcases this with rfl | rfl | rfl <;> decide
  omega
theorem u_strI {i : Int} {s : Sto} {Q : D → Prop} (h : i.natAbs < 10 ^ 12) (q : Q (.str (S (nu i)))) : Od (gStrI [.int i] s) Q := by
  refine u_now ?_ q
  have hl : i.natAbs.log2 < 1920 := by
    by_cases h0 : i.natAbs = 0
    · rw [h0]; decide
    · exact (Nat.log2_lt h0).mpr (Nat.lt_of_lt_of_le h (Nat.le_trans (m := 2 ^ 40) (by decide) (Nat.pow_le_pow_right (by decide) (by decide))))
  unfold gStrI
  dsimp only
  rw [if_pos hl, ← nu_eq]
theorem lstS_map {st : Sto} {zs : List Str} : lstS st (.lst (zs.map D.str)) = some zs := strsOf_map zs
theorem join_cx {f : Nat} {xs : List D} : Txt.join ", " (xs.map fun x => S (cx f x)) = S (joinL [44, 32] (xs.map (cx f))) := by
  have := SX.join_S [44, 32] (xs.map (cx f))
  rw [List.map_map] at this
  rw [lit_com]
  exact this
theorem sum_cx {f : Nat} {xs : List D} (h2 : xs.length ≤ 2) (h : ∀ x ∈ xs, (cx f x).length ≤ 400) : ((xs.map fun x => S (cx f x)).map (·.length)).sum + (xs.map fun x => S (cx f x)).length * (", " : Str).length ≤ 1000000 := by
  have e : (", " : Str).length = 2 := by decide +kernel
  rw [e, List.length_map]
  have : ((xs.map fun x => S (cx f x)).map (·.length)).sum ≤ 400 * xs.length := by
    clear h2
    induction xs with
    | nil => exact Nat.le_refl _
    | cons x xs ih =>
      rw [List.map_cons, List.map_cons, List.sum_cons, List.length_cons, Nat.mul_succ]
      have h1 := h x (by simp)
      have h2 := ih fun y hy => h y (by simp [hy])
      have : (S (cx f x)).length = (cx f x).length := SX.S_len _
      omega
  omega
theorem ttext_ok {st : Sto} : ∀ (d : Nat) (x : D), Gt d x → d ≤ 2 → ∀ f, d + 1 ≤ f → mr_term_text f [x] st = some (.str (S (cx f x)), st)
  | d, _, hx, hd, 0, hf => by omega
  | d, _, .of (n := n) (w := w) hn hw, hd, f + 1, hf => by
    have n8 := hn.hi; have nl := nu_len hw; have nn := Nm.len (n := n); have ns : n.cps.size = n.length := rfl
    rw [sr_term_text]
    refine Ok.eq (z_fn rfl ?_)
    unfold b_term_text
    bv_omega
    refine u_ixT rfl ?_
    bv_omega
    refine u_eqW (strOk_w _) (strOk_w _) ?_
    refine b_t (by decide) ?_
    bv_omega
    refine u_ixT rfl ?_
    bv_omega
    refine u_addC (a := n.cps.toList) (b := [32]) (S_tl n).symm lit_sp (by simp; omega) ?_
    bv_omega
    refine u_ixT rfl ?_
    bv_omega
    refine u_strI hw ?_
    refine u_addC (a := n.cps.toList ++ [32]) (b := nu w) rfl rfl (by simp; omega) ?_
    refine ⟨?_, rfl⟩
    show _ = D.str (S ([] ++ (n.cps.toList ++ 32 :: nu w)))
    simp
  | d, _, .now (n := n) (w := w) hn hw, hd, f + 1, hf => by
    have n8 := hn.hi; have nl := nu_len hw; have nn := Nm.len (n := n); have ns : n.cps.size = n.length := rfl
    rw [sr_term_text]
    refine Ok.eq (z_fn rfl ?_)
    unfold b_term_text
    bv_omega
    refine u_ixT rfl ?_
    bv_omega
    refine u_eqW (strOk_w _) (strOk_w _) ?_
    refine b_f (by decide) ?_
    bv_omega
    refine u_ixT rfl ?_
    bv_omega
    refine u_eqW (strOk_w _) (strOk_w _) ?_
    refine b_t (by decide) ?_
    bv_omega
    refine u_ixT rfl ?_
    bv_omega
    refine u_addC (a := [110, 111, 119, 32]) (b := n.cps.toList) lit_now (S_tl n).symm (by simp; omega) ?_
    bv_omega
    refine u_addC (b := [32]) rfl lit_sp (by simp; omega) ?_
    bv_omega
    refine u_ixT rfl ?_
    bv_omega
    refine u_strI hw ?_
    refine u_addC (b := nu w) rfl rfl (by simp; omega) ?_
    refine ⟨?_, rfl⟩
    show _ = D.str (S ([110, 111, 119, 32] ++ (n.cps.toList ++ 32 :: nu w)))
    simp
  | d + 1, _, .node (k := k) (xs := xs) hk h1 h2 h, hd, f + 1, hf => by
    have kok : PyData.strOk k = true := by rcases hk with rfl | rfl <;> exact strOk_w _
    have k5 : k.cps.toList.length ≤ 5 := by rcases hk with rfl | rfl <;> decide +kernel
    have ks : k.cps.size = k.cps.toList.length := Array.length_toList.symm
    have cl := fun x hx => cx_len2 (h x hx) (by omega) (show d + 1 ≤ f by omega)
    have jl := two_le h2 cl
    rw [sr_term_text]
    refine Ok.eq (z_fn rfl ?_)
    unfold b_term_text
    bv_omega
    refine u_ixT rfl ?_
    bv_omega
    refine u_eqW kok (strOk_w _) ?_
    refine b_f (by rcases hk with rfl | rfl <;> decide) ?_
    bv_omega
    refine u_ixT rfl ?_
    bv_omega
    refine u_eqW kok (strOk_w _) ?_
    refine b_f (by rcases hk with rfl | rfl <;> decide) ?_
    bv_omega
    refine u_ixT rfl ?_
    bv_omega
    refine u_eqW kok (strOk_w _) ?_
    refine b_f (by rcases hk with rfl | rfl <;> decide) ?_
    bv_omega
    refine u_ixT rfl ?_
    bv_omega
    refine u_addC (a := k.cps.toList) (b := [40]) (S_tl k).symm lit_par (by simp; omega) ?_
    bv_omega
    refine ⟨_, rfl, ?_⟩
    bv_omega
    refine z_seqI ?_
    bv_omega
    refine u_ixT last2 ?_
    refine ⟨xs, .inl rfl, by show xs.length ≤ 1000000; omega, ?_⟩
    refine Ok.use (comp_yes (fun x => D.str (S (cx f x))) rfl xs fun x hm => ?_) ?_
    · refine ⟨_, rfl, ?_⟩
      bv_omega
      refine Ok.use (ttext_ok d x (h x hm) (by omega) f (by omega)) ?_
      exact ⟨rfl, rfl⟩
    bv_omega
    refine ⟨xs.map fun x => S (cx f x), ?_, sum_cx h2 cl, ?_⟩
    · have := lstS_map (st := st) (zs := xs.map fun x => S (cx f x))
      rwa [List.map_map] at this
    rw [join_cx]
    refine u_addC rfl rfl (by simp; omega) ?_
    bv_omega
    refine u_addC (b := [41]) rfl lit_end (by simp; omega) ?_
    refine ⟨?_, rfl⟩
    show _ = D.str (S (k.cps.toList ++ 40 :: (joinL [44, 32] (xs.map (cx f)) ++ [41])))
    simp
  | d + 1, _, .rank (r := r) (xs := xs) h1 h2 h3 h, hd, f + 1, hf => by
    have k5 : ("rank" : Str).cps.toList.length = 4 := by decide +kernel
    have r12 : r.natAbs < 10 ^ 12 := Nat.lt_of_lt_of_le (m := 3) (by omega) (by decide)
    have nl := nu_len r12
    have cl := fun x hx => cx_len2 (h x hx) (by omega) (show d + 1 ≤ f by omega)
    have jl := two_le h3 cl
    rw [sr_term_text]
    refine Ok.eq (z_fn rfl ?_)
    unfold b_term_text
    bv_omega
    refine u_ixT rfl ?_
    bv_omega
    refine u_eqW (strOk_w _) (strOk_w _) ?_
    refine b_f (by decide) ?_
    bv_omega
    refine u_ixT rfl ?_
    bv_omega
    refine u_eqW (strOk_w _) (strOk_w _) ?_
    refine b_f (by decide) ?_
    bv_omega
    refine u_ixT rfl ?_
    bv_omega
    refine u_eqW (strOk_w _) (strOk_w _) ?_
    refine b_t (by decide) ?_
    bv_omega
    refine u_ixT rfl ?_
    bv_omega
    refine u_strI r12 ?_
    refine u_addC (a := [114, 97, 110, 107, 32]) (b := nu r) lit_rank_ rfl (by simp; omega) ?_
    bv_omega
    refine u_addC (b := [40]) rfl lit_par (by simp; omega) ?_
    bv_omega
    refine ⟨_, rfl, ?_⟩
    bv_omega
    refine z_seqI ?_
    bv_omega
    refine u_ixT last3 ?_
    refine ⟨xs, .inl rfl, by show xs.length ≤ 1000000; omega, ?_⟩
    refine Ok.use (comp_yes (fun x => D.str (S (cx f x))) rfl xs fun x hm => ?_) ?_
    · refine ⟨_, rfl, ?_⟩
      bv_omega
      refine Ok.use (ttext_ok d x (h x hm) (by omega) f (by omega)) ?_
      exact ⟨rfl, rfl⟩
    bv_omega
    refine ⟨xs.map fun x => S (cx f x), ?_, sum_cx h3 cl, ?_⟩
    · have := lstS_map (st := st) (zs := xs.map fun x => S (cx f x))
      rwa [List.map_map] at this
    rw [join_cx]
    refine u_addC rfl rfl (by simp; omega) ?_
    bv_omega
    refine u_addC (b := [41]) rfl lit_end (by simp; omega) ?_
    refine ⟨?_, rfl⟩
    show _ = D.str (S ((("rank" : Str).cps.toList ++ 32 :: nu r) ++ 40 :: (joinL [44, 32] (xs.map (cx f)) ++ [41])))
    rw [show ("rank" : Str).cps.toList = [114, 97, 110, 107] by decide +kernel]
    simp
end K94

/-! UC94: the law's own texts. -/
namespace K94
open PySem L2 LW
local macro_rules | `(tactic| bv_omega) => `(tactic| (repeat (first | with_reducible first | refine z_var (by with_unfolding_all rfl) ?_ | refine z_pk (by with_unfolding_all rfl) ?_ | refine z_pkO (by with_unfolding_all rfl) ?_ | refine z_retO (by with_unfolding_all rfl) ?_ | refine z_dictO (by with_unfolding_all rfl) ?_ | refine z_c ?_ | refine z_op ?_ | refine z_nil ?_ | refine z_cons ?_ | refine z_tup ?_ | refine z_lst ?_ | refine z_L ?_ | refine z_bi ?_ | refine z_call ?_ | refine z_meth ?_ | refine z_prop ?_ | refine z_fld ?_ | refine z_make ?_ | refine z_not ?_ | refine z_neg ?_ | refine z_bits ?_ | refine t_of ?_ | refine t_not ?_ | refine z_slN ?_ | refine z_oN ?_ | refine z_oS ?_ | refine z_snil ?_ | refine z_seq ?_ | refine z_set ?_ | refine z_own ?_ | refine z_ret ?_ | refine z_retC ?_ | refine z_drop ?_ | refine z_frz ?_ | refine z_app ?_ | refine z_appC ?_ | refine z_putC ?_ | refine z_for ?_ | refine z_lc ?_ | refine z_yes ?_ | refine z_kv ?_ | refine z_ko ?_ | refine z_par ?_ | refine z_unp ?_ | refine z_sfld ?_ | refine z_rg1 ?_ | refine z_rg2 ?_ | refine z_rg3 ?_ | refine z_and ?_ | refine z_or ?_ | refine z_eif ?_ | refine t_and ?_ | refine t_or ?_ | refine z_sif ?_ | refine u_add ?_ | refine u_sub ?_ | refine u_lt ?_ | refine u_le ?_ | refine u_gt ?_ | refine u_ge ?_ | refine u_isN ?_ | refine u_notN ?_ | refine z_par3 ?_ | refine z_dcl ?_ | refine z_cel ?_ | refine z_putDC ?_ | refine z_clrC ?_ | refine z_ownD ?_ | refine z_lenSN ?_ | refine z_D ?_ | refine z_dComp ?_ | refine z_lc2 ?_ | refine z_sn ?_ | refine z_makeC ?_ | refine z_methC ?_ | refine z_fldC ?_ | refine z_sfldC ?_ | refine z_xSet ?_ | refine z_methX ?_ | refine z_methCX ?_ | refine z_xIfE ?_ | refine z_xEL ?_ | refine z_xPar2 (by decide) ?_ | refine z_kD2 ?_ | refine z_par2 (by decide) ?_ | refine z_d0 ?_ | refine z_xBare ?_ | refine z_xFrz ?_ | refine z_xFor ?_ | refine z_sortIt ?_ | refine z_lenO ?_ | refine z_xSeq ?_ | refine z_xIf ?_ | refine z_xRaise ?_ | refine z_xL ?_ | refine z_xNil ?_ | refine z_xDrop ?_ | refine z_xRet ?_ | refine z_eCallX ?_ | refine z_sTry ?_ | refine z_DT ?_ | refine z_t0 ?_ | refine z_Td ?_ | refine z_ownT ?_ | refine z_putT ?_ | refine z_frzT ?_ | refine z_par3T ?_ | refine z_toT ?_ | refine z_join ?_ | refine z_sw3 ?_ | (with_reducible refine u_mul ?_ ?_; next => first | exact mulC_r (by decide) (by decide) | exact mulC_l (by decide) (by decide) | exact mulC_r (by omega) (by omega) | exact mulC_l (by omega) (by omega)) | (with_reducible refine u_mod ?_ ?_; next => first | decide | assumption | omega) | (with_reducible refine u_div ?_ ?_; next => first | exact divC_s (by decide) (by decide) | exact divC_s (by omega) (by omega)))))
open SX (S)
open TL (numL pre joinL)
theorem ix_dig {m : Nat} (h : m < 10) {s : Sto} : oIx (.str digW) (.int (m : Nat)) s = some (.str (S [48 + m])) := by
  match m, h with
  | 0, _ => rfl
  | 1, _ => rfl
  | 2, _ => rfl
  | 3, _ => rfl
  | 4, _ => rfl
  | 5, _ => rfl
  | 6, _ => rfl
  | 7, _ => rfl
  | 8, _ => rfl
  | 9, _ => rfl
noncomputable abbrev ntC : SB := bOr (bOf (eOp oGt (ePeek 2) (eC (.int 0)))) (bOf (eOp oEq (ePeek 1) (eC (.str ""))))
noncomputable abbrev ntB : SS := sPar 1 2 (.val (eOp oAdd (eOp oIx (eC (.str "0123456789")) (eOp oMod (ePeek 2) (eC (.int 10)))) (ePeek 1))) (.val (eOp oDiv (ePeek 2) (eC (.int 10))))
theorem nt_loop {st : Sto} {p0 : Sl} : ∀ (k n : Nat) (acc : List Nat) (fuel : Nat), n < 10 ^ k → 1 ≤ k → k + 1 ≤ fuel → acc.length + k ≤ 100 → Asc acc → (0 < n ∨ acc = []) → Ok (wLoop ntC ntB fuel [p0, .val (.str (S acc)), .val (.int (n : Nat))] st) fun o s => s = st ∧ o = .nx [p0, .val (.str (S (numL n ++ acc))), .val (.int 0)]
  | 0, n, acc, fuel, hn, hk, _, _, _, _ => by omega
  | k + 1, n, acc, 0, _, _, hf, _, _, _ => by omega
  | k + 1, n, acc, fuel + 1, hn, hk, hf, hl, ha, h0 => by
    have body : Ok (ntB [p0, .val (.str (S acc)), .val (.int (n : Nat))] st) fun o s => s = st ∧ o = .nx [p0, .val (.str (S ((48 + n % 10) :: acc))), .val (.int ((n / 10 : Nat) : Int))] := by
      bv_omega
      rw [show ((n : Nat) : Int) % 10 = ((n % 10 : Nat) : Int) by omega]
      refine u_now (ix_dig (Nat.mod_lt _ (by decide))) ?_
      bv_omega
      refine u_addC (a := [48 + n % 10]) (b := acc) rfl rfl (by simp; omega) ?_
      bv_omega
      refine ⟨by decide, rfl, ?_⟩
      rw [show ((n : Nat) : Int) / 10 = ((n / 10 : Nat) : Int) by omega]
      rfl
    have rest : Ok (wLoop ntC ntB fuel [p0, .val (.str (S ((48 + n % 10) :: acc))), .val (.int ((n / 10 : Nat) : Int))] st) fun o s => s = st ∧ o = .nx [p0, .val (.str (S (numL n ++ acc))), .val (.int 0)] := by
      by_cases h10 : n < 10
      · have e0 : n / 10 = 0 := by omega
        obtain ⟨fuel, rfl⟩ : ∃ f, fuel = f + 1 := ⟨fuel - 1, by omega⟩
        rw [e0]
        refine z_wl ?_
        bv_omega
        refine b_f (decide_eq_false (by omega)) ?_
        bv_omega
        refine u_eqW (Asc.ok fun c hc => ?_) (strOk_w "") ?_
        · rcases List.mem_cons.mp hc with rfl | hc
          · omega
          · exact ha c hc
        refine b_f (decide_eq_false fun z => ?_) ?_
        · rw [lit_nil] at z
          have := S_inj z
          cases this
        refine ⟨rfl, ?_⟩
        rw [TL.numL_lt h10, Nat.mod_eq_of_lt h10]
        rfl
      · refine (nt_loop k (n / 10) ((48 + n % 10) :: acc) fuel (by rw [Nat.pow_succ] at hn; omega) (by
          cases k with
          | zero => simp at hn; omega
          | succ k => omega) (by omega) (by rw [List.length_cons]; omega) (fun c hc => ?_) (.inl (by omega))).mono ?_
        · rcases List.mem_cons.mp hc with rfl | hc
          · omega
          · exact ha c hc
        rintro o s ⟨rfl, rfl⟩
        refine ⟨rfl, ?_⟩
        rw [TL.numL_step (by omega : 10 ≤ n), List.append_assoc]
        rfl
    refine z_wl ?_
    have go : Ok (ntB [p0, .val (.str (S acc)), .val (.int (n : Nat))] st) fun o s2 => ∃ e2, o = .nx e2 ∧ Ok (wLoop ntC ntB fuel e2 s2) fun o s => s = st ∧ o = .nx [p0, .val (.str (S (numL n ++ acc))), .val (.int 0)] := by
      refine body.mono ?_
      rintro o s ⟨rfl, rfl⟩
      exact ⟨_, rfl, rest⟩
    bv_omega
    by_cases hp : 0 < n
    · refine b_t (decide_eq_true (by omega)) ?_
      refine b_t rfl ?_
      exact go
    · refine b_f (decide_eq_false (by omega)) ?_
      bv_omega
      refine u_eqW ha.ok (strOk_w "") ?_
      refine b_t (decide_eq_true ?_) ?_
      · rw [h0.resolve_left hp]
        exact lit_nil.symm
      exact go
theorem lnum_ok {i : Int} (hi : i.natAbs < 10 ^ 12) {st : Sto} : m__law_number_text [.int i] st = some (.str (S (nu i)), st) := by
  have nl := TL.numL_len (k := 12) (by decide) hi
  refine Ok.eq (z_fn rfl ?_)
  unfold b__law_number_text
  bv_omega
  refine u_now (a := .int (i.natAbs : Nat)) (by
    unfold gAbs
    dsimp only
    congr 2
    split <;> omega) ?_
  bv_omega
  refine ⟨by decide, ?_⟩
  bv_omega
  have key := nt_loop (st := st) (p0 := .val (.int i)) 12 i.natAbs [] 16 hi (by decide) (by decide) (by simp) (fun c hc => (nomatch hc)) (.inr rfl)
  rw [List.append_nil, ← lit_nil] at key
  refine key.mono ?_
  rintro o s ⟨rfl, rfl⟩
  bv_omega
  refine b_dec (fun h => ?_) fun h => ?_
  · bv_omega
    refine u_addC (a := [45]) (b := numL i.natAbs) lit_minus rfl (by simp; omega) ?_
    exact ⟨by rw [show nu i = 45 :: numL i.natAbs from if_pos h]; rfl, rfl⟩
  · bv_omega
    exact ⟨by rw [show nu i = numL i.natAbs from if_neg h], rfl⟩
theorem lterm_ok {st : Sto} : ∀ (d : Nat) (x : D), Gt d x → d ≤ 2 → ∀ f, d + 1 ≤ f → mr__law_term_text f [x] st = some (.str (S (cx f x)), st)
  | d, _, hx, hd, 0, hf => by omega
  | d, _, .of (n := n) (w := w) hn hw, hd, f + 1, hf => by
    have n8 := hn.hi; have nl := nu_len hw; have nn := Nm.len (n := n); have ns : n.cps.size = n.length := rfl
    rw [sr__law_term_text]
    refine Ok.eq (z_fn rfl ?_)
    unfold b__law_term_text
    bv_omega
    refine u_ixT rfl ?_
    bv_omega
    refine u_eqW (strOk_w _) (strOk_w _) ?_
    refine b_t (by decide) ?_
    bv_omega
    refine u_ixT rfl ?_
    bv_omega
    refine u_addC (a := n.cps.toList) (b := [32]) (S_tl n).symm lit_sp (by simp; omega) ?_
    bv_omega
    refine u_ixT rfl ?_
    bv_omega
    refine Ok.use (lnum_ok hw) ?_
    refine u_addC (a := n.cps.toList ++ [32]) (b := nu w) rfl rfl (by simp; omega) ?_
    refine ⟨?_, rfl⟩
    show _ = D.str (S ([] ++ (n.cps.toList ++ 32 :: nu w)))
    simp
  | d, _, .now (n := n) (w := w) hn hw, hd, f + 1, hf => by
    have n8 := hn.hi; have nl := nu_len hw; have nn := Nm.len (n := n); have ns : n.cps.size = n.length := rfl
    rw [sr__law_term_text]
    refine Ok.eq (z_fn rfl ?_)
    unfold b__law_term_text
    bv_omega
    refine u_ixT rfl ?_
    bv_omega
    refine u_eqW (strOk_w _) (strOk_w _) ?_
    refine b_f (by decide) ?_
    bv_omega
    refine u_ixT rfl ?_
    bv_omega
    refine u_eqW (strOk_w _) (strOk_w _) ?_
    refine b_t (by decide) ?_
    bv_omega
    refine u_ixT rfl ?_
    bv_omega
    refine u_addC (a := [110, 111, 119, 32]) (b := n.cps.toList) lit_now (S_tl n).symm (by simp; omega) ?_
    bv_omega
    refine u_addC (b := [32]) rfl lit_sp (by simp; omega) ?_
    bv_omega
    refine u_ixT rfl ?_
    bv_omega
    refine Ok.use (lnum_ok hw) ?_
    refine u_addC (b := nu w) rfl rfl (by simp; omega) ?_
    refine ⟨?_, rfl⟩
    show _ = D.str (S ([110, 111, 119, 32] ++ (n.cps.toList ++ 32 :: nu w)))
    simp
  | d + 1, _, .node (k := k) (xs := xs) hk h1 h2 h, hd, f + 1, hf => by
    have kok : PyData.strOk k = true := by rcases hk with rfl | rfl <;> exact strOk_w _
    have k5 : k.cps.toList.length ≤ 5 := by rcases hk with rfl | rfl <;> decide +kernel
    have ks : k.cps.size = k.cps.toList.length := Array.length_toList.symm
    have cl := fun x hx => cx_len2 (h x hx) (by omega) (show d + 1 ≤ f by omega)
    have jl := two_le h2 cl
    rw [sr__law_term_text]
    refine Ok.eq (z_fn rfl ?_)
    unfold b__law_term_text
    bv_omega
    refine u_ixT rfl ?_
    bv_omega
    refine u_eqW kok (strOk_w _) ?_
    refine b_f (by rcases hk with rfl | rfl <;> decide) ?_
    bv_omega
    refine u_ixT rfl ?_
    bv_omega
    refine u_eqW kok (strOk_w _) ?_
    refine b_f (by rcases hk with rfl | rfl <;> decide) ?_
    bv_omega
    refine u_ixT rfl ?_
    bv_omega
    refine u_eqW kok (strOk_w _) ?_
    refine b_f (by rcases hk with rfl | rfl <;> decide) ?_
    bv_omega
    refine u_ixT rfl ?_
    bv_omega
    refine u_addC (a := k.cps.toList) (b := [40]) (S_tl k).symm lit_par (by simp; omega) ?_
    bv_omega
    refine ⟨_, rfl, ?_⟩
    bv_omega
    refine z_seqI ?_
    bv_omega
    refine u_ixT last2 ?_
    refine ⟨xs, .inl rfl, by show xs.length ≤ 1000000; omega, ?_⟩
    refine Ok.use (comp_yes (fun x => D.str (S (cx f x))) rfl xs fun x hm => ?_) ?_
    · refine ⟨_, rfl, ?_⟩
      bv_omega
      refine Ok.use (lterm_ok d x (h x hm) (by omega) f (by omega)) ?_
      exact ⟨rfl, rfl⟩
    bv_omega
    refine ⟨xs.map fun x => S (cx f x), ?_, sum_cx h2 cl, ?_⟩
    · have := lstS_map (st := st) (zs := xs.map fun x => S (cx f x))
      rwa [List.map_map] at this
    rw [join_cx]
    refine u_addC rfl rfl (by simp; omega) ?_
    bv_omega
    refine u_addC (b := [41]) rfl lit_end (by simp; omega) ?_
    refine ⟨?_, rfl⟩
    show _ = D.str (S (k.cps.toList ++ 40 :: (joinL [44, 32] (xs.map (cx f)) ++ [41])))
    simp
  | d + 1, _, .rank (r := r) (xs := xs) h1 h2 h3 h, hd, f + 1, hf => by
    have k5 : ("rank" : Str).cps.toList.length = 4 := by decide +kernel
    have r12 : r.natAbs < 10 ^ 12 := Nat.lt_of_lt_of_le (m := 3) (by omega) (by decide)
    have nl := nu_len r12
    have cl := fun x hx => cx_len2 (h x hx) (by omega) (show d + 1 ≤ f by omega)
    have jl := two_le h3 cl
    rw [sr__law_term_text]
    refine Ok.eq (z_fn rfl ?_)
    unfold b__law_term_text
    bv_omega
    refine u_ixT rfl ?_
    bv_omega
    refine u_eqW (strOk_w _) (strOk_w _) ?_
    refine b_f (by decide) ?_
    bv_omega
    refine u_ixT rfl ?_
    bv_omega
    refine u_eqW (strOk_w _) (strOk_w _) ?_
    refine b_f (by decide) ?_
    bv_omega
    refine u_ixT rfl ?_
    bv_omega
    refine u_eqW (strOk_w _) (strOk_w _) ?_
    refine b_t (by decide) ?_
    bv_omega
    refine u_ixT rfl ?_
    bv_omega
    refine u_addC (a := [114, 97, 110, 107]) (b := [32]) lit_rank lit_sp (by simp) ?_
    bv_omega
    refine u_ixT rfl ?_
    bv_omega
    refine Ok.use (lnum_ok r12) ?_
    refine u_addC (b := nu r) rfl rfl (by simp; omega) ?_
    bv_omega
    refine u_addC (b := [40]) rfl lit_par (by simp; omega) ?_
    bv_omega
    refine ⟨_, rfl, ?_⟩
    bv_omega
    refine z_seqI ?_
    bv_omega
    refine u_ixT last3 ?_
    refine ⟨xs, .inl rfl, by show xs.length ≤ 1000000; omega, ?_⟩
    refine Ok.use (comp_yes (fun x => D.str (S (cx f x))) rfl xs fun x hm => ?_) ?_
    · refine ⟨_, rfl, ?_⟩
      bv_omega
      refine Ok.use (lterm_ok d x (h x hm) (by omega) f (by omega)) ?_
      exact ⟨rfl, rfl⟩
    bv_omega
    refine ⟨xs.map fun x => S (cx f x), ?_, sum_cx h3 cl, ?_⟩
    · have := lstS_map (st := st) (zs := xs.map fun x => S (cx f x))
      rwa [List.map_map] at this
    rw [join_cx]
    refine u_addC rfl rfl (by simp; omega) ?_
    bv_omega
    refine u_addC (b := [41]) rfl lit_end (by simp; omega) ?_
    refine ⟨?_, rfl⟩
    show _ = D.str (S ((("rank" : Str).cps.toList ++ 32 :: nu r) ++ 40 :: (joinL [44, 32] (xs.map (cx f)) ++ [41])))
    rw [show ("rank" : Str).cps.toList = [114, 97, 110, 107] by decide +kernel]
    simp
end K94

/-! VC94: terms read from texts. -/
namespace LW
open PySem L2
theorem z_wlG {cond : SB} {body : SS} {n : Nat} {env : LW.Env} {st : Sto} {QS : Out → Sto → Prop} (h : Ok (cond env st) fun b s1 => if b = true then Ok (body env s1) fun o s2 => match o with
    | .nx e2 => Ok (wLoop cond body n e2 s2) QS
    | .ct e2 => Ok (wLoop cond body n e2 s2) QS
    | .bk e2 => QS (.nx e2) s2
    | .rt d => QS (.rt d) s2 else QS (.nx env) s1) : Ok (wLoop cond body (n + 1) env st) QS := by
  obtain ⟨b, s1, e1, h⟩ := h
  cases b with
  | false => exact wl_no e1 h
  | true =>
    obtain ⟨o, s2, e2, q⟩ := h
    have u : wLoop cond body (n + 1) env st = (match cond env st with
      | none => none
      | some (false, s1) => some (.nx env, s1)
      | some (true, s1) => match body env s1 with
        | some (.nx e2, s2) => wLoop cond body n e2 s2
        | some (.ct e2, s2) => wLoop cond body n e2 s2
        | some (.bk e2, s2) => some (.nx e2, s2)
        | some (.rt d, s2) => some (.rt d, s2)
        | none => none) := rfl
    cases o with
    | nx e3 =>
      obtain ⟨a, s, e, q⟩ := q
      exact ⟨a, s, by rw [u, e1]; dsimp only; rw [e2]; exact e, q⟩
    | ct e3 =>
      obtain ⟨a, s, e, q⟩ := q
      exact ⟨a, s, by rw [u, e1]; dsimp only; rw [e2]; exact e, q⟩
    | bk e3 => exact ⟨_, s2, by rw [u, e1]; dsimp only; rw [e2], q⟩
    | rt d => exact ⟨_, s2, by rw [u, e1]; dsimp only; rw [e2], q⟩
end LW
namespace K94
open PySem L2 LW
local macro_rules | `(tactic| bv_omega) => `(tactic| (repeat (first | with_reducible first | refine z_var (by with_unfolding_all rfl) ?_ | refine z_pk (by with_unfolding_all rfl) ?_ | refine z_pkO (by with_unfolding_all rfl) ?_ | refine z_retO (by with_unfolding_all rfl) ?_ | refine z_dictO (by with_unfolding_all rfl) ?_ | refine z_c ?_ | refine z_op ?_ | refine z_nil ?_ | refine z_cons ?_ | refine z_tup ?_ | refine z_lst ?_ | refine z_L ?_ | refine z_bi ?_ | refine z_call ?_ | refine z_meth ?_ | refine z_prop ?_ | refine z_fld ?_ | refine z_make ?_ | refine z_not ?_ | refine z_neg ?_ | refine z_bits ?_ | refine t_of ?_ | refine t_not ?_ | refine z_slN ?_ | refine z_oN ?_ | refine z_oS ?_ | refine z_snil ?_ | refine z_seq ?_ | refine z_set ?_ | refine z_own ?_ | refine z_ret ?_ | refine z_retC ?_ | refine z_drop ?_ | refine z_frz ?_ | refine z_app ?_ | refine z_appC ?_ | refine z_putC ?_ | refine z_for ?_ | refine z_lc ?_ | refine z_yes ?_ | refine z_kv ?_ | refine z_ko ?_ | refine z_par ?_ | refine z_unp ?_ | refine z_sfld ?_ | refine z_rg1 ?_ | refine z_rg2 ?_ | refine z_rg3 ?_ | refine z_and ?_ | refine z_or ?_ | refine z_eif ?_ | refine t_and ?_ | refine t_or ?_ | refine z_sif ?_ | refine u_add ?_ | refine u_sub ?_ | refine u_lt ?_ | refine u_le ?_ | refine u_gt ?_ | refine u_ge ?_ | refine u_isN ?_ | refine u_notN ?_ | refine z_par3 ?_ | refine z_dcl ?_ | refine z_cel ?_ | refine z_putDC ?_ | refine z_clrC ?_ | refine z_ownD ?_ | refine z_lenSN ?_ | refine z_D ?_ | refine z_dComp ?_ | refine z_lc2 ?_ | refine z_sn ?_ | refine z_makeC ?_ | refine z_methC ?_ | refine z_fldC ?_ | refine z_sfldC ?_ | refine z_xSet ?_ | refine z_methX ?_ | refine z_methCX ?_ | refine z_xIfE ?_ | refine z_xEL ?_ | refine z_xPar2 (by decide) ?_ | refine z_kD2 ?_ | refine z_par2 (by decide) ?_ | refine z_d0 ?_ | refine z_xBare ?_ | refine z_xFrz ?_ | refine z_xFor ?_ | refine z_sortIt ?_ | refine z_lenO ?_ | refine z_xSeq ?_ | refine z_xIf ?_ | refine z_xRaise ?_ | refine z_xL ?_ | refine z_xNil ?_ | refine z_xDrop ?_ | refine z_xRet ?_ | refine z_eCallX ?_ | refine z_sTry ?_ | refine z_DT ?_ | refine z_t0 ?_ | refine z_Td ?_ | refine z_ownT ?_ | refine z_putT ?_ | refine z_frzT ?_ | refine z_par3T ?_ | refine z_toT ?_ | refine z_join ?_ | refine z_sw3 ?_ | (with_reducible refine u_mul ?_ ?_; next => first | exact mulC_r (by decide) (by decide) | exact mulC_l (by decide) (by decide) | exact mulC_r (by omega) (by omega) | exact mulC_l (by omega) (by omega)) | (with_reducible refine u_mod ?_ ?_; next => first | decide | assumption | omega) | (with_reducible refine u_div ?_ ?_; next => first | exact divC_s (by decide) (by decide) | exact divC_s (by omega) (by omega)))))
open SX (S)
open TL (numL pre joinL)
/-- what may stand behind a term -/
def En (r : List Nat) : Prop := ∀ c r', r = c :: r' → c ∉ dimW.cps.toList ∧ c ≠ 40 ∧ c < 128
theorem En.nod {r : List Nat} (h : En r) : Nod r := fun c r' e => (h c r' e).1
theorem En.nil : En [] := fun c r' e => by cases e
theorem En.one {c : Nat} {r : List Nat} (h : c ∉ dimW.cps.toList ∧ c ≠ 40 ∧ c < 128) : En (c :: r) := fun d r' e => by cases e; exact h
theorem En.com {r : List Nat} : En (44 :: r) := En.one (by decide +kernel)
theorem En.par {r : List Nat} : En (41 :: r) := En.one (by decide +kernel)
noncomputable abbrev taB (r_terms_at : FM) : SS := (sIf (bOf (eSw3 (ePeek 0) (aCons (eOp oAdd (ePeek 2) (eC (.str "("))) (aCons (ePeek 1) (aNil)))))
  (sSeq (sSet 3 (eCall r_terms_at [] (aCons (eVar 0) (aCons (eOp oAdd (eOp oAdd (ePeek 1) (eBi gLen (aCons (ePeek 2) (aNil)))) (eC (.int 1))) (aNil)))))
  (sRet (eIf (bOf (eOp oIsN (ePeek 3) (eC .non))) (eC .non) (eTup (aCons (eTup (aCons (eVar 2) (aCons (eOp oIx (ePeek 3) (eC (.int 0))) (aNil)))) (aCons (eOp oIx (ePeek 3) (eC (.int 1))) (aNil)))))))
  (sNil))
noncomputable abbrev nwC : SB := (bAnd (bOf (eSw3 (ePeek 0) (aCons (eC (.str "now ")) (aCons (ePeek 1) (aNil))))) (bOf (eOp (oInS false) (eSl slS (ePeek 0) (oSome (eOp oAdd (ePeek 1) (eC (.int 4)))) (oSome (eOp oAdd (ePeek 1) (eC (.int 5))))) (eC (.str "abcdefghijklmnopqrstuvwxyz")))))
noncomputable abbrev tsB (r_term_at : FM) : SS := (sSeq (sSet 3 (eCall r_term_at [] (aCons (eVar 0) (aCons (eVar 1) (aNil)))))
  (sSeq (sIf (bOf (eOp oIsN (ePeek 3) (eC .non)))
  (sRet (eC .non))
  (sNil))
  (sSeq (sApp 2 (eOp oIx (ePeek 3) (eC (.int 0))))
  (sSeq (sIf (bOf (eOp oEq (eSl slS (ePeek 0) (oSome (eOp oIx (ePeek 3) (eC (.int 1)))) (oSome (eOp oAdd (eOp oIx (ePeek 3) (eC (.int 1))) (eC (.int 1))))) (eC (.str ")"))))
  (sFrz 2 (sRet (eTup (aCons (eVar 2) (aCons (eOp oAdd (eOp oIx (ePeek 3) (eC (.int 1))) (eC (.int 1))) (aNil))))))
  (sNil))
  (sSet 1 (eOp oAdd (eOp oIx (ePeek 3) (eC (.int 1))) (eC (.int 2))))))))
section
variable {z : Str} {p q : List Nat} {st : Sto} {p2 p3 p4 : Sl}
theorem ta_cond {w : Str} {wc : List Nat} (hw : w = S wc) (hz : z = S (p ++ q)) (hl : wc.length ≤ 10) : Ok (bOf (eSw3 (ePeek 0) (aCons (eOp oAdd (ePeek 2) (eC (.str "("))) (aCons (ePeek 1) (aNil)))) [.val (.str z), .val (.int p.length), .val (.str w), p3, p4] st) fun b s => b = pre (wc ++ [40]) q ∧ s = st := by
  bv_omega
  refine ⟨_, rfl, ?_⟩
  bv_omega
  refine u_addC (a := wc) (b := [40]) hw lit_par (by simp; omega) ?_
  bv_omega
  refine ⟨_, _, rfl, ?_⟩
  rw [hz, sw_at]
  exact ⟨rfl, rfl⟩
theorem ta_no {r : FM} {w : Str} {wc : List Nat} (hw : w = S wc) (hz : z = S (p ++ q)) (hl : wc.length ≤ 10) (hp : pre (wc ++ [40]) q = false) : Ok (taB r [.val (.str z), .val (.int p.length), .val (.str w), p3, p4] st) fun o s => o = .nx [.val (.str z), .val (.int p.length), .val (.str w), p3, p4] ∧ s = st := by
  refine z_sif ?_
  refine (ta_cond hw hz hl).mono ?_
  rintro b s ⟨rfl, rfl⟩
  refine b_f hp ?_
  bv_omega
  exact ⟨rfl, rfl⟩
theorem loop_no {r : FM} (hz : z = S (p ++ q)) (h1 : pre [102, 105, 114, 115, 116, 40] q = false) (h2 : pre [108, 97, 115, 116, 40] q = false) : Ok (loopM noChk (asgN 2) (taB r) [.str "first", .str "last"] [.val (.str z), .val (.int p.length), p2, p3, p4] st) fun o s => o = .nx [.val (.str z), .val (.int p.length), .val (.str "last"), p3, p4] ∧ s = st := by
  refine z_loopC rfl rfl ?_
  refine (ta_no (wc := [102, 105, 114, 115, 116]) lit_first hz (by decide) h1).mono ?_
  rintro o s ⟨rfl, rfl⟩
  refine z_loopC rfl rfl ?_
  refine (ta_no (wc := [108, 97, 115, 116]) lit_last hz (by decide) h2).mono ?_
  rintro o s ⟨rfl, rfl⟩
  exact z_loopN rfl ⟨rfl, rfl⟩
theorem nw_cond {p2 : Sl} (hz : z = S (p ++ q)) (hl : p.length + q.length ≤ 900000) (hq : ∀ t, q = [110, 111, 119, 32] ++ t → ∃ c r, t = c :: r) : Ok (nwC [.val (.str z), .val (.int p.length), p2, p3, p4] st) fun b s => s = st ∧ (b = true ↔ ∃ c r, q = [110, 111, 119, 32] ++ c :: r ∧ c ∈ letters.cps.toList) := by
  refine t_and ?_
  refine t_of ?_
  refine z_sw3 ?_
  bv_omega
  refine ⟨_, rfl, ?_⟩
  bv_omega
  refine ⟨_, _, rfl, ?_⟩
  rw [hz, lit_now, sw_at]
  cases hp : pre [110, 111, 119, 32] q with
  | false =>
    refine b_f rfl ?_
    refine ⟨rfl, ⟨fun h => (nomatch h), fun ⟨c, r, e, _⟩ => ?_⟩⟩
    rw [e, TL.pre_self] at hp
    cases hp
  | true =>
    refine b_t rfl ?_
    obtain ⟨t, rfl⟩ : ∃ t, q = [110, 111, 119, 32] ++ t := by
      unfold TL.pre at hp
      have := eq_of_beq hp
      exact ⟨q.drop 4, by rw [← this]; exact (List.take_append_drop 4 q).symm⟩
    obtain ⟨c, r, rfl⟩ := hq t rfl
    bv_omega
    refine u_cut (p := p ++ [110, 111, 119, 32]) (q := c :: r) (k := 1) (by rw [List.append_assoc]) (by rw [List.length_append]; rfl) (by rw [List.length_append]; rfl) (by simp at hl ⊢; omega) ?_
    bv_omega
    refine u_in1 (c := c) rfl ?_
    refine ⟨rfl, ⟨fun h => ⟨c, r, rfl, of_decide_eq_true h⟩, fun ⟨c', r', e, hc⟩ => ?_⟩⟩
    have e := List.append_cancel_left e
    cases e
    exact decide_eq_true hc
end
theorem nm_no {n : Str} (hn : Nm n) {t : List Nat} {w : List Nat} (hw : ∀ c ∈ w, 97 ≤ c) : pre (w ++ [40]) (n.cps.toList ++ 32 :: t) = false := pre_no hw hn.let97
theorem nu_cons {i : Int} : ∃ c r, nu i = c :: r ∧ c ∈ dimW.cps.toList := by
  cases h : nu i with
  | nil =>
    unfold nu at h
    split at h
    · cases h
    · exact absurd h (TL.numL_ne _)
  | cons c r => exact ⟨c, r, rfl, nu_dim c (by rw [h]; simp)⟩
theorem dim_let {c : Nat} (h : c ∈ dimW.cps.toList) : c ∉ letters.cps.toList := fun q => by
  have := dim_rng c h
  have := let_rng c q
  omega
section
variable {z : Str} {p r : List Nat} {st : Sto}
theorem tat_of {n : Str} {w : Int} {f : Nat} (hn : Nm n) (hw : w.natAbs < 10 ^ 12) (hz : z = S (p ++ (n.cps.toList ++ 32 :: (nu w ++ r)))) (hr : En r) (hl : p.length + r.length < 800000) :
    mr_term_at (f + 1) [.str z, .int p.length] st = some (.tup [.tup [.str "of", .str n, .int w], .int ((p.length + (n.length + 1 + (nu w).length) : Nat) : Int)], st) := by
  have n8 := hn.hi; have nl := nu_len hw; have nn := Nm.len (n := n)
  rw [sr_term_at]
  refine Ok.eq (z_fn rfl ?_)
  unfold b_term_at
  bv_omega
  refine z_seqI ?_
  bv_omega
  refine ⟨by simp, ?_⟩
  refine ⟨_, .inr rfl, ?_⟩
  refine (loop_no hz (nm_no hn (w := [102, 105, 114, 115, 116]) (by decide)) (nm_no hn (w := [108, 97, 115, 116]) (by decide))).mono ?_
  rintro o s ⟨rfl, rfl⟩
  refine z_seq ?_
  refine z_sif ?_
  refine (nw_cond hz (by rw [List.length_append, List.length_cons, List.length_append]; omega) fun t e => ?_).mono ?_
  · have h := pre_now hn.let97 (r := nu w ++ r) (by rw [e]; exact TL.pre_self _ _)
    rw [h] at e
    have e : t = nu w ++ r := (List.append_cancel_left (show [110, 111, 119, 32] ++ (nu w ++ r) = [110, 111, 119, 32] ++ t from e)).symm
    obtain ⟨c, r', e2, _⟩ := nu_cons (i := w)
    exact ⟨c, r' ++ r, by rw [e, e2]; rfl⟩
  rintro b s ⟨rfl, hb⟩
  have b0 : b = false := by
    cases b with
    | false => rfl
    | true =>
      obtain ⟨c, r', e, hc⟩ := hb.mp rfl
      have h := pre_now hn.let97 (r := nu w ++ r) (by rw [e]; exact TL.pre_self _ _)
      rw [h] at e
      have e : nu w ++ r = c :: r' := List.append_cancel_left (show [110, 111, 119, 32] ++ (nu w ++ r) = [110, 111, 119, 32] ++ c :: r' from e)
      obtain ⟨c2, r2, e2, h2⟩ := nu_cons (i := w)
      rw [e2] at e
      cases e
      exact absurd hc (dim_let h2)
  subst b0
  refine b_f rfl ?_
  bv_omega
  refine Ok.use (named_ok hz hn hw hr.nod (by omega) rfl) ?_
  refine z_seq ?_
  refine z_sif ?_
  refine Ok.mono (Q := fun b s' => b = true ∧ s' = s) ?_ ?_
  · bv_omega
    refine b_f rfl ?_
    bv_omega
    refine u_ixT (d := .str n) rfl ?_
    bv_omega
    refine u_neW hn.ok (strOk_w "rank") ?_
    by_cases e : n = "rank"
    · refine b_f (by rw [decide_eq_true e]; rfl) ?_
      bv_omega
      refine u_ixT (d := .int ((p.length + (n.length + 1 + (nu w).length) : Nat) : Int)) rfl ?_
      bv_omega
      refine u_ixT (d := .int ((p.length + (n.length + 1 + (nu w).length) : Nat) : Int)) rfl ?_
      bv_omega
      have el : (p ++ (n.cps.toList ++ 32 :: nu w)).length = p.length + (n.length + 1 + (nu w).length) := by
        rw [List.length_append, List.length_append, List.length_cons, nn]
        omega
      refine u_cut (p := p ++ (n.cps.toList ++ 32 :: nu w)) (q := r) (k := 1) (by rw [hz]; congr 1; simp) (by rw [el]) (by rw [el]; rfl) (by rw [el]; omega) ?_
      bv_omega
      refine u_neW (Asc.ok fun c hc => ?_) (strOk_w "(") ?_
      · cases r with
        | nil => cases hc
        | cons c' r' =>
          rw [show List.take 1 (c' :: r') = [c'] from rfl, List.mem_singleton] at hc
          rw [hc]
          exact (hr c' r' rfl).2.2
      · refine ⟨?_, rfl⟩
        rw [decide_eq_false fun q => ?_]
        · rfl
        · rw [lit_par] at q
          have q := S_inj q
          cases r with
          | nil => cases q
          | cons c' r' =>
            have q : [c'] = [40] := q
            cases q
            exact (hr 40 r' rfl).2.1 rfl
    · refine b_t (by rw [decide_eq_false e]; rfl) ?_
      exact ⟨rfl, rfl⟩
  rintro b s' ⟨rfl, rfl⟩
  refine b_t rfl ?_
  bv_omega
  refine b_f rfl ?_
  bv_omega
  refine u_ixT (d := .str n) rfl ?_
  bv_omega
  refine u_ixT (d := .int w) rfl ?_
  bv_omega
  refine ⟨by simp, ?_⟩
  bv_omega
  refine u_ixT (d := .int ((p.length + (n.length + 1 + (nu w).length) : Nat) : Int)) rfl ?_
  bv_omega
  exact ⟨by simp, rfl, rfl⟩
theorem tat_now {n : Str} {w : Int} {f : Nat} (hn : Nm n) (hw : w.natAbs < 10 ^ 12) (hz : z = S (p ++ ([110, 111, 119, 32] ++ (n.cps.toList ++ 32 :: (nu w ++ r))))) (hr : En r) (hl : p.length + r.length < 800000) :
    mr_term_at (f + 1) [.str z, .int p.length] st = some (.tup [.tup [.str "now", .str n, .int w], .int ((p.length + (4 + (n.length + 1 + (nu w).length)) : Nat) : Int)], st) := by
  have n8 := hn.hi; have n1 := hn.lo; have nl := nu_len hw; have nn := Nm.len (n := n)
  rw [sr_term_at]
  refine Ok.eq (z_fn rfl ?_)
  unfold b_term_at
  bv_omega
  refine z_seqI ?_
  bv_omega
  refine ⟨by simp, ?_⟩
  refine ⟨_, .inr rfl, ?_⟩
  refine (loop_no hz (TL.pre_of_head _ _ (by decide)) (TL.pre_of_head _ _ (by decide))).mono ?_
  rintro o s ⟨rfl, rfl⟩
  obtain ⟨c, t, ec⟩ : ∃ c t, n.cps.toList = c :: t := by
    cases h : n.cps.toList with
    | nil => rw [h] at nn; simp at nn; omega
    | cons c t => exact ⟨c, t, rfl⟩
  refine z_seq ?_
  refine z_sif ?_
  refine (nw_cond hz (by simp only [List.length_append, List.length_cons, List.length_nil]; omega) fun t' e => ?_).mono ?_
  · have e := (List.append_cancel_left e).symm
    exact ⟨c, t ++ 32 :: (nu w ++ r), by rw [e, ec]; rfl⟩
  rintro b s ⟨rfl, hb⟩
  refine b_t (hb.mpr ⟨c, t ++ 32 :: (nu w ++ r), by rw [ec]; rfl, hn.abc c (by rw [ec]; simp)⟩) ?_
  bv_omega
  refine Ok.use (named_ok (p := p ++ [110, 111, 119, 32]) (r := r) (by rw [hz, List.append_assoc]) hn hw hr.nod (by rw [List.length_append]; show p.length + 4 + _ < _; omega) (by rw [List.length_append]; rfl)) ?_
  bv_omega
  refine b_f rfl ?_
  bv_omega
  refine u_ixT (d := .str n) rfl ?_
  bv_omega
  refine u_ixT (d := .int w) rfl ?_
  bv_omega
  refine ⟨by simp, ?_⟩
  bv_omega
  refine u_ixT (d := .int (((p ++ [110, 111, 119, 32]).length + (n.length + 1 + (nu w).length) : Nat) : Int)) rfl ?_
  bv_omega
  refine ⟨by simp, ?_, rfl⟩
  have e9 : (p ++ [110, 111, 119, 32]).length + (n.length + 1 + (nu w).length) = p.length + (4 + (n.length + 1 + (nu w).length)) := by
    rw [List.length_append]
    show p.length + 4 + _ = _
    omega
  rw [e9]
/-- what is read of one term -/
def TA (B f g : Nat) (x : D) : Prop := ∀ (z : Str) (p r : List Nat) (st : Sto), z = S (p ++ (cx g x ++ r)) → En r → p.length + r.length < B → mr_term_at f [.str z, .int p.length] st = some (.tup [x, .int ((p.length + (cx g x).length : Nat) : Int)], st)
theorem ts_end {B f g : Nat} (hB : B ≤ 800000) {x : D} {done : List D} {p3 : Sl} (hx : TA B f g x) (hz : z = S (p ++ (cx g x ++ 41 :: r))) (hl : p.length + r.length + 10 < B) (hc : (cx g x).length ≤ 1000) (hd : done.length ≤ 100) :
    Ok (tsB (mr_term_at f) [.val (.str z), .val (.int p.length), .own done, p3] st) fun o s => s = st ∧ o = .rt (.tup [.lst (done ++ [x]), .int ((p.length + (cx g x).length + 1 : Nat) : Int)]) := by
  bv_omega
  refine Ok.use (hx z p (41 :: r) st hz En.par (by rw [List.length_cons]; omega)) ?_
  bv_omega
  refine b_f rfl ?_
  bv_omega
  refine u_ixT (d := x) rfl ?_
  refine ⟨_, rfl, by omega, ?_⟩
  bv_omega
  refine u_ixT (d := .int ((p.length + (cx g x).length : Nat) : Int)) rfl ?_
  bv_omega
  refine u_ixT (d := .int ((p.length + (cx g x).length : Nat) : Int)) rfl ?_
  bv_omega
  have el : (p ++ cx g x).length = p.length + (cx g x).length := List.length_append
  refine u_cut (p := p ++ cx g x) (q := 41 :: r) (k := 1) (by rw [hz, List.append_assoc]) (by rw [el]) (by rw [el]; rfl) (by rw [el, List.length_cons]; omega) ?_
  bv_omega
  refine u_eqW (Asc.ok fun c hc => by rw [List.mem_singleton.mp hc]; decide) (strOk_w ")") ?_
  refine b_t (decide_eq_true lit_end.symm) ?_
  bv_omega
  refine u_ixT (d := .int ((p.length + (cx g x).length : Nat) : Int)) rfl ?_
  bv_omega
  exact ⟨by simp, rfl, rfl⟩
theorem ts_go {B f g : Nat} (hB : B ≤ 800000) {x : D} {done : List D} {p3 : Sl} (hx : TA B f g x) (hz : z = S (p ++ (cx g x ++ ([44, 32] ++ r)))) (hl : p.length + r.length + 10 < B) (hc : (cx g x).length ≤ 1000) (hd : done.length ≤ 100) :
    Ok (tsB (mr_term_at f) [.val (.str z), .val (.int p.length), .own done, p3] st) fun o s => s = st ∧ ∃ p3, o = .nx [.val (.str z), .val (.int ((p.length + (cx g x).length + 2 : Nat) : Int)), .own (done ++ [x]), p3] := by
  bv_omega
  refine Ok.use (hx z p (44 :: 32 :: r) st hz En.com (by rw [List.length_cons, List.length_cons]; omega)) ?_
  bv_omega
  refine b_f rfl ?_
  bv_omega
  refine u_ixT (d := x) rfl ?_
  refine ⟨_, rfl, by omega, ?_⟩
  bv_omega
  refine u_ixT (d := .int ((p.length + (cx g x).length : Nat) : Int)) rfl ?_
  bv_omega
  refine u_ixT (d := .int ((p.length + (cx g x).length : Nat) : Int)) rfl ?_
  bv_omega
  have el : (p ++ cx g x).length = p.length + (cx g x).length := List.length_append
  refine u_cut (p := p ++ cx g x) (q := 44 :: 32 :: r) (k := 1) (by rw [hz, List.append_assoc]; rfl) (by rw [el]) (by rw [el]; rfl) (by rw [el, List.length_cons, List.length_cons]; omega) ?_
  bv_omega
  refine u_eqW (Asc.ok fun c hc => by rw [List.mem_singleton.mp hc]; decide) (strOk_w ")") ?_
  refine b_f (decide_eq_false fun q => ?_) ?_
  · rw [lit_end] at q
    have q := S_inj q
    cases q
  bv_omega
  refine u_ixT (d := .int ((p.length + (cx g x).length : Nat) : Int)) rfl ?_
  bv_omega
  exact ⟨rfl, _, rfl⟩
theorem ts_ok {B f g : Nat} (hB : B ≤ 800000) {xs : List D} (hx : ∀ x ∈ xs, TA B f g x) (h1 : 1 ≤ xs.length) (h2 : xs.length ≤ 2) (hc : ∀ x ∈ xs, (cx g x).length ≤ 1000) (hz : z = S (p ++ (joinL [44, 32] (xs.map (cx g)) ++ 41 :: r))) (hl : p.length + r.length + 3000 < B) :
    mr_terms_at (f + 1) [.str z, .int p.length] st = some (.tup [.lst xs, .int ((p.length + ((joinL [44, 32] (xs.map (cx g))).length + 1) : Nat) : Int)], st) := by
  rw [sr_terms_at]
  refine Ok.eq (z_fn rfl ?_)
  unfold b_terms_at
  bv_omega
  refine ⟨by simp, ?_⟩
  bv_omega
  refine z_wlG ?_
  bv_omega
  refine ⟨by simp, ?_⟩
  refine u_now (a := .bl true) rfl ?_
  refine b_t rfl ?_
  refine b_t rfl ?_
  match xs, h1, h2, hx, hc, hz with
  | [x], _, _, hx, hc, hz =>
    have hcx := hc x (by simp)
    refine (ts_end hB (done := []) (hx x (by simp)) hz (by omega) hcx (by simp)).mono ?_
    rintro o s ⟨rfl, rfl⟩
    refine ⟨?_, rfl⟩
    rw [show p.length + (cx g x).length + 1 = p.length + ((joinL [44, 32] ([x].map (cx g))).length + 1) from by show _ = p.length + ((cx g x).length + 1); omega]
    rfl
  | [x, y], _, _, hx, hc, hz =>
    have hcx := hc x (by simp)
    have hcy := hc y (by simp)
    have hz : z = S (p ++ (cx g x ++ ([44, 32] ++ (cx g y ++ 41 :: r)))) := by
      rw [hz]
      congr 2
      show (cx g x ++ ([44, 32] ++ cx g y)) ++ 41 :: r = _
      simp
    refine (ts_go hB (done := []) (hx x (by simp)) hz (by rw [List.length_append, List.length_cons]; omega) hcx (by simp)).mono ?_
    rintro o s ⟨rfl, p3, rfl⟩
    refine z_wlG ?_
    bv_omega
    refine ⟨by simp, ?_⟩
    refine u_now (a := .bl false) rfl ?_
    refine b_f rfl ?_
    bv_omega
    have el : (p ++ cx g x).length = p.length + (cx g x).length := List.length_append
    refine u_cut (p := p ++ cx g x) (q := [44, 32] ++ (cx g y ++ 41 :: r)) (k := 2) (by rw [hz, List.append_assoc]) (by rw [el]; omega) (by rw [el]) (by simp only [List.length_append, List.length_cons, List.length_nil]; omega) ?_
    bv_omega
    refine u_eqW (Asc.ok fun c hc => ?_) (strOk_w ", ") ?_
    · rcases List.mem_cons.mp hc with rfl | hc
      · decide
      · rw [List.mem_singleton.mp hc]; decide
    refine b_t (decide_eq_true lit_com.symm) ?_
    have e2 : (p ++ (cx g x ++ [44, 32])).length = p.length + (cx g x).length + 2 := by
      rw [List.length_append, List.length_append]
      show p.length + ((cx g x).length + 2) = _
      omega
    rw [← e2]
    refine (ts_end hB (r := r) (p := p ++ (cx g x ++ [44, 32])) (done := [] ++ [x]) (hx y (by simp)) (by rw [hz]; congr 1; simp) (by rw [e2]; omega) hcy (by simp)).mono ?_
    rintro o s ⟨rfl, rfl⟩
    refine ⟨?_, rfl⟩
    rw [e2, show p.length + (cx g x).length + 2 + (cx g y).length + 1 = p.length + ((joinL [44, 32] ([x, y].map (cx g))).length + 1) from by
      show _ = p.length + ((cx g x ++ ([44, 32] ++ cx g y)).length + 1)
      simp only [List.length_append, List.length_cons, List.length_nil]
      omega]
    rfl
theorem ta_yes {B f g : Nat} (hB : B ≤ 800000) {w : Str} {wc : List Nat} {xs : List D} {p3 p4 : Sl} (hw : w = S wc) (hwl : wc.length ≤ 10) (hx : ∀ x ∈ xs, TA B f g x) (h1 : 1 ≤ xs.length) (h2 : xs.length ≤ 2) (hc : ∀ x ∈ xs, (cx g x).length ≤ 1000) (hz : z = S (p ++ ((wc ++ [40]) ++ (joinL [44, 32] (xs.map (cx g)) ++ 41 :: r)))) (hl : p.length + r.length + 5000 < B) :
    Ok (taB (mr_terms_at (f + 1)) [.val (.str z), .val (.int p.length), .val (.str w), p3, p4] st) fun o s => s = st ∧ o = .rt (.tup [.tup [.str w, .lst xs], .int ((p.length + (wc.length + 1 + ((joinL [44, 32] (xs.map (cx g))).length + 1)) : Nat) : Int)]) := by
  refine z_sif ?_
  refine (ta_cond hw hz hwl).mono ?_
  rintro b s ⟨rfl, rfl⟩
  refine b_t (TL.pre_self _ _) ?_
  have wl : w.length = wc.length := by rw [hw, SX.S_len]
  have el : (p ++ (wc ++ [40])).length = p.length + (wc.length + 1) := by
    rw [List.length_append, List.length_append]
    rfl
  bv_omega
  refine u_lenC (by omega) ?_
  bv_omega
  have e1 : (p.length : Int) + (w.length : Int) + 1 = (((p ++ (wc ++ [40])).length : Nat) : Int) := by
    rw [el, wl]
    omega
  rw [e1]
  refine Ok.use (ts_ok hB (p := p ++ (wc ++ [40])) (r := r) hx h1 h2 hc (by rw [hz]; congr 1; simp) (by rw [el]; omega)) ?_
  bv_omega
  refine b_f rfl ?_
  bv_omega
  refine u_ixT (d := .lst xs) rfl ?_
  bv_omega
  refine ⟨by simp, ?_⟩
  bv_omega
  refine u_ixT (d := .int (((p ++ (wc ++ [40])).length + ((joinL [44, 32] (xs.map (cx g))).length + 1) : Nat) : Int)) rfl ?_
  bv_omega
  refine ⟨by simp, rfl, ?_⟩
  have e9 : (p ++ (wc ++ [40])).length + ((joinL [44, 32] (xs.map (cx g))).length + 1) = p.length + (wc.length + 1 + ((joinL [44, 32] (xs.map (cx g))).length + 1)) := by
    rw [el]
    omega
  rw [e9]
theorem tat_node {B f g : Nat} (hB : B ≤ 800000) {k : Str} {xs : List D} (hk : k = "first" ∨ k = "last") (hx : ∀ x ∈ xs, TA B f g x) (h1 : 1 ≤ xs.length) (h2 : xs.length ≤ 2) (hc : ∀ x ∈ xs, (cx g x).length ≤ 1000) (hz : z = S (p ++ ((k.cps.toList ++ [40]) ++ (joinL [44, 32] (xs.map (cx g)) ++ 41 :: r)))) (hl : p.length + r.length + 5000 < B) :
    mr_term_at (f + 2) [.str z, .int p.length] st = some (.tup [.tup [.str k, .lst xs], .int ((p.length + (k.cps.toList.length + 1 + ((joinL [44, 32] (xs.map (cx g))).length + 1)) : Nat) : Int)], st) := by
  rw [sr_term_at]
  refine Ok.eq (z_fn rfl ?_)
  unfold b_term_at
  bv_omega
  refine z_seqI ?_
  bv_omega
  refine ⟨by simp, ?_⟩
  refine ⟨_, .inr rfl, ?_⟩
  rcases hk with rfl | rfl
  · refine z_loopC rfl rfl ?_
    refine (ta_yes hB (S_tl _).symm (by decide +kernel) hx h1 h2 hc hz hl).mono ?_
    rintro o s ⟨rfl, rfl⟩
    exact ⟨rfl, rfl⟩
  · refine z_loopC rfl rfl ?_
    have ec : ("last" : Str).cps.toList = [108, 97, 115, 116] := by decide +kernel
    refine (ta_no (wc := [102, 105, 114, 115, 116]) lit_first hz (by decide) (by rw [ec]; exact TL.pre_of_head _ _ (by decide))).mono ?_
    rintro o s ⟨rfl, rfl⟩
    refine z_loopC rfl rfl ?_
    refine (ta_yes hB (S_tl _).symm (by decide +kernel) hx h1 h2 hc hz hl).mono ?_
    rintro o s ⟨rfl, rfl⟩
    exact ⟨rfl, rfl⟩
theorem rank_nm : Nm "rank" := by
  have : (1 ≤ ("rank" : Str).length ∧ ("rank" : Str).length ≤ 8) ∧ ∀ c ∈ ("rank" : Str).cps.toList, c ∈ letters.cps.toList := by decide +kernel
  exact ⟨this.1.1, this.1.2, this.2⟩
theorem tat_rank {B f g : Nat} (hB : B ≤ 800000) {i : Int} {xs : List D} (hx : ∀ x ∈ xs, TA B f g x) (i1 : 1 ≤ i) (i2 : i ≤ xs.length) (h2 : xs.length ≤ 2) (hc : ∀ x ∈ xs, (cx g x).length ≤ 1000) (hz : z = S (p ++ (("rank" : Str).cps.toList ++ 32 :: (nu i ++ 40 :: (joinL [44, 32] (xs.map (cx g)) ++ 41 :: r))))) (hl : p.length + r.length + 5000 < B) :
    mr_term_at (f + 2) [.str z, .int p.length] st = some (.tup [.tup [.str "rank", .int i, .lst xs], .int ((p.length + (("rank" : Str).cps.toList.length + 1 + (nu i).length + 1 + ((joinL [44, 32] (xs.map (cx g))).length + 1)) : Nat) : Int)], st) := by
  have jl : (joinL [44, 32] (xs.map (cx g))).length ≤ 2 * 1000 + 4 := two_le h2 hc
  have i12 : i.natAbs < 10 ^ 12 := Nat.lt_of_lt_of_le (m := 3) (by omega) (by decide)
  have nl := nu_len i12
  have rl : ("rank" : Str).length = 4 := by decide +kernel
  have ec : ("rank" : Str).cps.toList = [114, 97, 110, 107] := by decide +kernel
  rw [sr_term_at]
  refine Ok.eq (z_fn rfl ?_)
  unfold b_term_at
  bv_omega
  refine z_seqI ?_
  bv_omega
  refine ⟨by simp, ?_⟩
  refine ⟨_, .inr rfl, ?_⟩
  refine (loop_no hz (by rw [ec]; exact TL.pre_of_head _ _ (by decide)) (by rw [ec]; exact TL.pre_of_head _ _ (by decide))).mono ?_
  rintro o s ⟨rfl, rfl⟩
  refine z_seq ?_
  refine z_sif ?_
  refine (nw_cond hz (by rw [ec]; simp only [List.length_append, List.length_cons, List.length_nil]; omega) fun t e => ?_).mono ?_
  · rw [ec] at e
    cases e
  rintro b s ⟨rfl, hb⟩
  have b0 : b = false := by
    cases b with
    | false => rfl
    | true =>
      obtain ⟨c, r', e, hc⟩ := hb.mp rfl
      rw [ec] at e
      cases e
  subst b0
  refine b_f rfl ?_
  bv_omega
  refine Ok.use (named_ok (n := "rank") (r := 40 :: (joinL [44, 32] (xs.map (cx g)) ++ 41 :: r)) hz rank_nm i12 (fun c r' e => by cases e; decide +kernel) (by rw [List.length_cons, List.length_append, List.length_cons]; omega) rfl) ?_
  rw [rl]
  have el : (p ++ (("rank" : Str).cps.toList ++ 32 :: nu i)).length = p.length + (4 + 1 + (nu i).length) := by
    rw [ec]
    simp only [List.length_append, List.length_cons, List.length_nil]
    omega
  bv_omega
  refine b_f rfl ?_
  bv_omega
  refine u_ixT (d := .str "rank") rfl ?_
  bv_omega
  refine u_neW (strOk_w "rank") (strOk_w "rank") ?_
  refine b_f (by rw [decide_eq_true rfl]; rfl) ?_
  bv_omega
  refine u_ixT (d := .int ((p.length + (4 + 1 + (nu i).length) : Nat) : Int)) rfl ?_
  bv_omega
  refine u_ixT (d := .int ((p.length + (4 + 1 + (nu i).length) : Nat) : Int)) rfl ?_
  bv_omega
  refine u_cut (p := p ++ (("rank" : Str).cps.toList ++ 32 :: nu i)) (q := 40 :: (joinL [44, 32] (xs.map (cx g)) ++ 41 :: r)) (k := 1) (by rw [hz]; congr 1; simp) (by rw [el]) (by rw [el]; rfl) (by rw [el, List.length_cons, List.length_append, List.length_cons]; omega) ?_
  bv_omega
  refine u_neW (Asc.ok fun c hc => by rw [List.mem_singleton.mp hc]; decide) (strOk_w "(") ?_
  refine b_f (by rw [decide_eq_true (show S (List.take 1 (40 :: _)) = ("(" : Str) from lit_par.symm)]; rfl) ?_
  bv_omega
  refine u_ixT (d := .int ((p.length + (4 + 1 + (nu i).length) : Nat) : Int)) rfl ?_
  bv_omega
  have el2 : (p ++ (("rank" : Str).cps.toList ++ 32 :: (nu i ++ [40]))).length = p.length + (4 + 1 + (nu i).length) + 1 := by
    rw [ec]
    simp only [List.length_append, List.length_cons, List.length_nil]
    omega
  have e1 : ((p.length + (4 + 1 + (nu i).length) : Nat) : Int) + 1 = (((p ++ (("rank" : Str).cps.toList ++ 32 :: (nu i ++ [40]))).length : Nat) : Int) := by
    rw [el2]
    omega
  rw [e1]
  refine Ok.use (ts_ok hB (p := p ++ (("rank" : Str).cps.toList ++ 32 :: (nu i ++ [40]))) (r := r) hx (by omega) h2 hc (by rw [hz]; congr 1; simp) (by rw [el2]; omega)) ?_
  bv_omega
  refine b_f rfl ?_
  bv_omega
  refine u_ixT (d := .int i) rfl ?_
  bv_omega
  refine b_f (decide_eq_false (by omega)) ?_
  bv_omega
  refine u_ixT (d := .int i) rfl ?_
  bv_omega
  refine u_ixT (d := .lst xs) rfl ?_
  bv_omega
  refine u_now (a := .int xs.length) rfl ?_
  bv_omega
  refine b_f (decide_eq_false (by omega)) ?_
  bv_omega
  refine u_ixT (d := .int i) rfl ?_
  bv_omega
  refine u_ixT (d := .lst xs) rfl ?_
  bv_omega
  refine ⟨by simp, ?_⟩
  bv_omega
  refine u_ixT (d := .int (((p ++ (("rank" : Str).cps.toList ++ 32 :: (nu i ++ [40]))).length + ((joinL [44, 32] (xs.map (cx g))).length + 1) : Nat) : Int)) rfl ?_
  bv_omega
  refine ⟨by simp, ?_, rfl⟩
  have e9 : (p ++ (("rank" : Str).cps.toList ++ 32 :: (nu i ++ [40]))).length + ((joinL [44, 32] (xs.map (cx g))).length + 1) = p.length + (("rank" : Str).cps.toList.length + 1 + (nu i).length + 1 + ((joinL [44, 32] (xs.map (cx g))).length + 1)) := by
    rw [el2, ec]
    simp only [List.length_cons, List.length_nil]
    omega
  rw [e9]
end
end K94

/-! WB94: rules read from texts; what equal texts tell. -/
namespace K94
open PySem L2 LW
local macro_rules | `(tactic| bv_omega) => `(tactic| (repeat (first | with_reducible first | refine z_var (by with_unfolding_all rfl) ?_ | refine z_pk (by with_unfolding_all rfl) ?_ | refine z_pkO (by with_unfolding_all rfl) ?_ | refine z_retO (by with_unfolding_all rfl) ?_ | refine z_dictO (by with_unfolding_all rfl) ?_ | refine z_c ?_ | refine z_op ?_ | refine z_nil ?_ | refine z_cons ?_ | refine z_tup ?_ | refine z_lst ?_ | refine z_L ?_ | refine z_bi ?_ | refine z_call ?_ | refine z_meth ?_ | refine z_prop ?_ | refine z_fld ?_ | refine z_make ?_ | refine z_not ?_ | refine z_neg ?_ | refine z_bits ?_ | refine t_of ?_ | refine t_not ?_ | refine z_slN ?_ | refine z_oN ?_ | refine z_oS ?_ | refine z_snil ?_ | refine z_seq ?_ | refine z_set ?_ | refine z_own ?_ | refine z_ret ?_ | refine z_retC ?_ | refine z_drop ?_ | refine z_frz ?_ | refine z_app ?_ | refine z_appC ?_ | refine z_putC ?_ | refine z_for ?_ | refine z_lc ?_ | refine z_yes ?_ | refine z_kv ?_ | refine z_ko ?_ | refine z_par ?_ | refine z_unp ?_ | refine z_sfld ?_ | refine z_rg1 ?_ | refine z_rg2 ?_ | refine z_rg3 ?_ | refine z_and ?_ | refine z_or ?_ | refine z_eif ?_ | refine t_and ?_ | refine t_or ?_ | refine z_sif ?_ | refine u_add ?_ | refine u_sub ?_ | refine u_lt ?_ | refine u_le ?_ | refine u_gt ?_ | refine u_ge ?_ | refine u_isN ?_ | refine u_notN ?_ | refine z_par3 ?_ | refine z_dcl ?_ | refine z_cel ?_ | refine z_putDC ?_ | refine z_clrC ?_ | refine z_ownD ?_ | refine z_lenSN ?_ | refine z_D ?_ | refine z_dComp ?_ | refine z_lc2 ?_ | refine z_sn ?_ | refine z_makeC ?_ | refine z_methC ?_ | refine z_fldC ?_ | refine z_sfldC ?_ | refine z_xSet ?_ | refine z_methX ?_ | refine z_methCX ?_ | refine z_xIfE ?_ | refine z_xEL ?_ | refine z_xPar2 (by decide) ?_ | refine z_kD2 ?_ | refine z_par2 (by decide) ?_ | refine z_d0 ?_ | refine z_xBare ?_ | refine z_xFrz ?_ | refine z_xFor ?_ | refine z_sortIt ?_ | refine z_lenO ?_ | refine z_xSeq ?_ | refine z_xIf ?_ | refine z_xRaise ?_ | refine z_xL ?_ | refine z_xNil ?_ | refine z_xDrop ?_ | refine z_xRet ?_ | refine z_eCallX ?_ | refine z_sTry ?_ | refine z_DT ?_ | refine z_t0 ?_ | refine z_Td ?_ | refine z_ownT ?_ | refine z_putT ?_ | refine z_frzT ?_ | refine z_par3T ?_ | refine z_toT ?_ | refine z_join ?_ | refine z_sw3 ?_ | (with_reducible refine u_mul ?_ ?_; next => first | exact mulC_r (by decide) (by decide) | exact mulC_l (by decide) (by decide) | exact mulC_r (by omega) (by omega) | exact mulC_l (by omega) (by omega)) | (with_reducible refine u_mod ?_ ?_; next => first | decide | assumption | omega) | (with_reducible refine u_div ?_ ?_; next => first | exact divC_s (by decide) (by decide) | exact divC_s (by omega) (by omega)))))
open SX (S)
open TL (numL pre joinL)
theorem tat_ok : ∀ (d : Nat) (x : D), Gt d x → d ≤ 2 → ∀ g, d + 1 ≤ g → ∀ f, 2 * d + 1 ≤ f → TA (700000 - 100000 * d) f g x
  | d, _, hx, hd, 0, hg, _, _ => by omega
  | d, _, hx, hd, _, _, 0, hf => by omega
  | d, _, .of (n := n) (w := w) hn hw, hd, g + 1, hg, f + 1, hf => by
    intro z p r st hz hr hl
    have nn := Nm.len (n := n)
    have ec : cx (g + 1) (.tup [.str "of", .str n, .int w]) = n.cps.toList ++ 32 :: nu w := rfl
    rw [ec] at hz
    have := tat_of (z := z) (p := p) (r := r) (f := f) (st := st) hn hw (by rw [hz]; congr 1; simp) hr (by omega)
    rw [this, ec]
    have e : p.length + (n.length + 1 + (nu w).length) = p.length + (n.cps.toList ++ 32 :: nu w).length := by
      rw [List.length_append, List.length_cons, nn]
      omega
    rw [e]
  | d, _, .now (n := n) (w := w) hn hw, hd, g + 1, hg, f + 1, hf => by
    intro z p r st hz hr hl
    have nn := Nm.len (n := n)
    have ec : cx (g + 1) (.tup [.str "now", .str n, .int w]) = [110, 111, 119, 32] ++ (n.cps.toList ++ 32 :: nu w) := rfl
    rw [ec] at hz
    have := tat_now (z := z) (p := p) (r := r) (f := f) (st := st) hn hw (by rw [hz]; congr 1; simp) hr (by omega)
    rw [this, ec]
    have e : p.length + (4 + (n.length + 1 + (nu w).length)) = p.length + ([110, 111, 119, 32] ++ (n.cps.toList ++ 32 :: nu w)).length := by
      simp only [List.length_append, List.length_cons, List.length_nil, nn]
      omega
    rw [e]
  | d + 1, _, .node (k := k) (xs := xs) hk h1 h2 h, hd, g + 1, hg, f + 1, hf => by
    intro z p r st hz hr hl
    obtain ⟨f, rfl⟩ : ∃ f', f = f' + 1 := ⟨f - 1, by omega⟩
    have ih : ∀ x ∈ xs, TA (700000 - 100000 * d) f g x := fun x hx => tat_ok d x (h x hx) (by omega) g (by omega) f (by omega)
    have cl : ∀ x ∈ xs, (cx g x).length ≤ 1000 := fun x hx => Nat.le_trans (cx_len2 (h x hx) (by omega) (by omega)) (by decide)
    have ec : cx (g + 1) (.tup [.str k, .lst xs]) = k.cps.toList ++ 40 :: (joinL [44, 32] (xs.map (cx g)) ++ [41]) := rfl
    rw [ec] at hz
    have := tat_node (z := z) (p := p) (r := r) (st := st) (by omega) hk ih h1 h2 cl (by rw [hz]; congr 1; simp) (by omega)
    rw [this, ec]
    have e : p.length + (k.cps.toList.length + 1 + ((joinL [44, 32] (xs.map (cx g))).length + 1)) = p.length + (k.cps.toList ++ 40 :: (joinL [44, 32] (xs.map (cx g)) ++ [41])).length := by
      rw [List.length_append, List.length_cons, List.length_append, List.length_singleton]
      omega
    rw [e]
  | d + 1, _, .rank (r := i) (xs := xs) h1 h2 h3 h, hd, g + 1, hg, f + 1, hf => by
    intro z p r st hz hr hl
    obtain ⟨f, rfl⟩ : ∃ f', f = f' + 1 := ⟨f - 1, by omega⟩
    have ih : ∀ x ∈ xs, TA (700000 - 100000 * d) f g x := fun x hx => tat_ok d x (h x hx) (by omega) g (by omega) f (by omega)
    have cl : ∀ x ∈ xs, (cx g x).length ≤ 1000 := fun x hx => Nat.le_trans (cx_len2 (h x hx) (by omega) (by omega)) (by decide)
    have ec : cx (g + 1) (.tup [.str "rank", .int i, .lst xs]) = (("rank" : Str).cps.toList ++ 32 :: nu i) ++ 40 :: (joinL [44, 32] (xs.map (cx g)) ++ [41]) := rfl
    rw [ec] at hz
    have := tat_rank (z := z) (p := p) (r := r) (st := st) (by omega) ih h1 h2 h3 cl (by rw [hz]; congr 1; simp) (by omega)
    rw [this, ec]
    have e : p.length + (("rank" : Str).cps.toList.length + 1 + (nu i).length + 1 + ((joinL [44, 32] (xs.map (cx g))).length + 1)) = p.length + ((("rank" : Str).cps.toList ++ 32 :: nu i) ++ 40 :: (joinL [44, 32] (xs.map (cx g)) ++ [41])).length := by
      rw [List.length_append, List.length_append, List.length_cons, List.length_cons, List.length_append, List.length_singleton]
      omega
    rw [e]
/-- the text of a term -/
abbrev tX (x : D) : Str := S (cx 11 x)
theorem Gt.len {x : D} (h : Gt 2 x) : (cx 11 x).length ≤ 400 := cx_len2 h (by decide) (by decide)
theorem read_term {x : D} (h : Gt 2 x) {st : Sto} : m_term_at [.str (tX x), .int 0] st = some (.tup [x, .int ((cx 11 x).length : Nat)], st) := by
  have l := h.len
  have := tat_ok 2 x h (by decide) 11 (by decide) 12 (by decide) (tX x) [] [] st (by simp) En.nil (by simp)
  simpa using this
theorem tX_inj {x y : D} (hx : Gt 2 x) (hy : Gt 2 y) (e : tX x = tX y) : x = y := by
  have h1 := read_term hx (st := [])
  have h2 := read_term hy (st := [])
  rw [e] at h1
  rw [h1] at h2
  cases h2
  rfl
theorem rulein_ok {x : D} (h : Gt 2 x) {st : Sto} : m_rule_in [.str (tX x)] st = some (ruD x, st) := by
  have l := h.len
  refine Ok.eq (z_fn rfl ?_)
  unfold b_rule_in
  bv_omega
  refine Ok.use (read_term h) ?_
  bv_omega
  refine b_f rfl ?_
  bv_omega
  refine u_ixT (d := .int ((cx 11 x).length : Nat)) rfl ?_
  bv_omega
  refine u_lenC (by rw [SX.S_len]; omega) ?_
  bv_omega
  refine u_ne rfl rfl ?_
  rw [eqv_int, decide_eq_true (by rw [SX.S_len])]
  refine b_f rfl ?_
  bv_omega
  refine u_ixT (d := x) rfl ?_
  bv_omega
  refine Ok.use (rule_ok (h.isT.up (by decide))) ?_
  exact ⟨rfl, rfl⟩
theorem readrule_ok {x : D} (h : Gt 2 x) {st : Sto} : m_read_rule [.str (tX x)] st = some (ruD x, st) := by
  refine Ok.eq (z_fn rfl ?_)
  unfold b_read_rule
  bv_omega
  refine z_fn rfl ?_
  unfold b_read_by
  bv_omega
  refine u_now (a := .bl true) rfl ?_
  refine b_t rfl ?_
  bv_omega
  refine z_callV rfl ?_
  bv_omega
  refine Ok.use (rulein_ok h) ?_
  bv_omega
  refine b_f rfl ?_
  bv_omega
  exact ⟨rfl, rfl⟩
theorem ruletext_ok {x : D} (h : Gt 2 x) {st : Sto} : m_rule_text [ruD x] st = some (.str (tX x), st) := by
  refine Ok.eq (z_fn rfl ?_)
  unfold b_rule_text
  bv_omega
  refine Ok.use ckrule_ok ?_
  bv_omega
  refine ⟨rfl, by decide, ?_⟩
  bv_omega
  refine Ok.use (rterm_ok (h.isT.up (by decide))) ?_
  bv_omega
  refine Ok.use (ttext_ok 2 x h (by decide) 11 (by decide)) ?_
  exact ⟨rfl, rfl⟩
end K94

/-! XB94: the law's terms. -/
namespace K94
open PySem L2 LW
local macro_rules | `(tactic| bv_omega) => `(tactic| (repeat (first | with_reducible first | refine z_var (by with_unfolding_all rfl) ?_ | refine z_pk (by with_unfolding_all rfl) ?_ | refine z_pkO (by with_unfolding_all rfl) ?_ | refine z_retO (by with_unfolding_all rfl) ?_ | refine z_dictO (by with_unfolding_all rfl) ?_ | refine z_c ?_ | refine z_op ?_ | refine z_nil ?_ | refine z_cons ?_ | refine z_tup ?_ | refine z_lst ?_ | refine z_L ?_ | refine z_bi ?_ | refine z_call ?_ | refine z_meth ?_ | refine z_prop ?_ | refine z_fld ?_ | refine z_make ?_ | refine z_not ?_ | refine z_neg ?_ | refine z_bits ?_ | refine t_of ?_ | refine t_not ?_ | refine z_slN ?_ | refine z_oN ?_ | refine z_oS ?_ | refine z_snil ?_ | refine z_seq ?_ | refine z_set ?_ | refine z_own ?_ | refine z_ret ?_ | refine z_retC ?_ | refine z_drop ?_ | refine z_frz ?_ | refine z_app ?_ | refine z_appC ?_ | refine z_putC ?_ | refine z_for ?_ | refine z_lc ?_ | refine z_yes ?_ | refine z_kv ?_ | refine z_ko ?_ | refine z_par ?_ | refine z_unp ?_ | refine z_sfld ?_ | refine z_rg1 ?_ | refine z_rg2 ?_ | refine z_rg3 ?_ | refine z_and ?_ | refine z_or ?_ | refine z_eif ?_ | refine t_and ?_ | refine t_or ?_ | refine z_sif ?_ | refine u_add ?_ | refine u_sub ?_ | refine u_lt ?_ | refine u_le ?_ | refine u_gt ?_ | refine u_ge ?_ | refine u_isN ?_ | refine u_notN ?_ | refine z_par3 ?_ | refine z_dcl ?_ | refine z_cel ?_ | refine z_putDC ?_ | refine z_clrC ?_ | refine z_ownD ?_ | refine z_lenSN ?_ | refine z_D ?_ | refine z_dComp ?_ | refine z_lc2 ?_ | refine z_sn ?_ | refine z_makeC ?_ | refine z_methC ?_ | refine z_fldC ?_ | refine z_sfldC ?_ | refine z_xSet ?_ | refine z_methX ?_ | refine z_methCX ?_ | refine z_xIfE ?_ | refine z_xEL ?_ | refine z_xPar2 (by decide) ?_ | refine z_kD2 ?_ | refine z_par2 (by decide) ?_ | refine z_d0 ?_ | refine z_xBare ?_ | refine z_xFrz ?_ | refine z_xFor ?_ | refine z_sortIt ?_ | refine z_lenO ?_ | refine z_xSeq ?_ | refine z_xIf ?_ | refine z_xRaise ?_ | refine z_xL ?_ | refine z_xNil ?_ | refine z_xDrop ?_ | refine z_xRet ?_ | refine z_eCallX ?_ | refine z_sTry ?_ | refine z_DT ?_ | refine z_t0 ?_ | refine z_Td ?_ | refine z_ownT ?_ | refine z_putT ?_ | refine z_frzT ?_ | refine z_par3T ?_ | refine z_toT ?_ | refine z_join ?_ | refine z_sw3 ?_ | (with_reducible refine u_mul ?_ ?_; next => first | exact mulC_r (by decide) (by decide) | exact mulC_l (by decide) (by decide) | exact mulC_r (by omega) (by omega) | exact mulC_l (by omega) (by omega)) | (with_reducible refine u_mod ?_ ?_; next => first | decide | assumption | omega) | (with_reducible refine u_div ?_ ?_; next => first | exact divC_s (by decide) (by decide) | exact divC_s (by omega) (by omega)))))
open SX (S)
open TL (numL pre joinL)
def Gl (d : Nat) (L : List D) : Prop := ∀ x ∈ L, Gt d x
theorem Gl.app {d : Nat} {L M : List D} (h : Gl d L) (h' : Gl d M) : Gl d (L ++ M) := fun x hx => (List.mem_append.mp hx).elim (h x) (h' x)
theorem Gl.up {d e : Nat} {L : List D} (h : Gl d L) (l : d ≤ e) : Gl e L := fun x hx => (h x hx).up l
def rkD (xs : List D) (d : D) : D := match d with
  | .int i => .tup [.str "rank", .int (i + 1), .lst xs]
  | d => d
def overL (xs : List D) : List D := [.tup [.str "first", .lst xs], .tup [.str "last", .lst xs]] ++ (rangeD 0 1 xs.length).map (rkD xs)
theorem over_ok {xs : List D} (h2 : xs.length ≤ 2) {st : Sto} : m__law_over [.lst xs] st = some (.lst (overL xs), st) := by
  refine Ok.eq (z_fn rfl ?_)
  unfold b__law_over
  bv_omega
  refine ⟨by simp, ?_⟩
  bv_omega
  refine ⟨by simp, ?_⟩
  bv_omega
  refine ⟨by simp, ?_⟩
  bv_omega
  refine u_now (a := .int xs.length) rfl ?_
  bv_omega
  refine ⟨_, rfl, inR_t (by omega) (by omega), ?_⟩
  refine ⟨by rw [rangeD_len]; omega, ?_⟩
  rw [Int.toNat_natCast]
  refine Ok.use (comp_yes (rkD xs) rfl (rangeD 0 1 xs.length) fun x hx => ?_) ?_
  · unfold rangeD at hx
    obtain ⟨i, _, rfl⟩ := List.mem_map.mp hx
    refine ⟨_, rfl, ?_⟩
    bv_omega
    exact ⟨by simp, rfl, rfl⟩
  bv_omega
  refine u_addL rfl rfl (by rw [List.length_map, rangeD_len]; simp; omega) ?_
  exact ⟨rfl, rfl⟩
theorem over_gl {d : Nat} {xs : List D} (h : Gl d xs) (h1 : 1 ≤ xs.length) (h2 : xs.length ≤ 2) : Gl (d + 1) (overL xs) ∧ (overL xs).length ≤ 4 := by
  refine ⟨fun x hx => ?_, ?_⟩
  · rcases List.mem_append.mp hx with hx | hx
    · simp only [List.mem_cons, List.not_mem_nil, or_false] at hx
      rcases hx with rfl | rfl
      · exact .node (.inl rfl) h1 h2 h
      · exact .node (.inr rfl) h1 h2 h
    · obtain ⟨y, hy, rfl⟩ := List.mem_map.mp hx
      unfold rangeD at hy
      obtain ⟨i, hi, rfl⟩ := List.mem_map.mp hy
      have := List.mem_range.mp hi
      exact .rank (by omega) (by omega) h2 h
  · show ([_, _] ++ (rangeD 0 1 xs.length).map (rkD xs)).length ≤ 4
    rw [List.length_append, List.length_map, rangeD_len]
    show 2 + _ ≤ 4
    omega
theorem five_nm {z : Str} (h : Nm z) : ∀ y ∈ (["now", "rank", "first", "a", z] : List Str), Nm y := by
  have four : ∀ y ∈ (["now", "rank", "first", "a"] : List Str), Nm y := by
    intro y hy
    have : (1 ≤ y.length ∧ y.length ≤ 8) ∧ ∀ c ∈ y.cps.toList, c ∈ letters.cps.toList := by
      revert y
      decide +kernel
    exact ⟨this.1.1, this.1.2, this.2⟩
  intro y hy
  simp only [List.mem_cons, List.not_mem_nil, or_false] at hy four
  rcases hy with q | q | q | q | q
  · exact four y (.inl q)
  · exact four y (.inr (.inl q))
  · exact four y (.inr (.inr (.inl q)))
  · exact four y (.inr (.inr (.inr q)))
  · rw [q]; exact h
theorem gt_part {k n : Str} {c : Int} (hk : k = "of" ∨ k = "now") (hn : Nm n) (hc : c.natAbs < 10 ^ 12) : Gt 0 (.tup [.str k, .str n, .int c]) := by
  rcases hk with rfl | rfl
  · exact .of hn hc
  · exact .now hn hc
theorem cut_len {α : Type} {xs : List α} {lo hi : Option Int} : (cutD xs lo hi).length ≤ xs.length := by
  unfold cutD
  rw [List.length_take, List.length_drop]
  omega
theorem atI_end {L : List D} {i : Nat} {d : D} (l : L.length = i + 1) (e : L[i]? = some d) : atI L (-1) = some d := by
  unfold atI ixN
  rw [l, if_neg (by decide), if_pos (by omega)]
  show L[(-1 + ((i + 1 : Nat) : Int)).toNat]? = _
  rw [show (-1 + ((i + 1 : Nat) : Int)).toNat = i by omega]
  exact e
theorem termsK {n k : Nat} {st : Sto} (P : Pc k n st) (hn : n < 2 ^ 44) {Q : D → Sto → Prop} (q : ∀ L s, Pc k (n + 500) s → Keep k st s → Gl 2 L → 0 < L.length → L.length ≤ 200 → Q (.lst L) s) : Ok (m__law_terms [.cell k] st) Q := by
  refine z_fn rfl ?_
  unfold b__law_terms
  bv_omega
  refine wordK P (by omega) fun z s1 P1 K1 hz => ?_
  bv_omega
  refine ⟨by simp, ?_⟩
  bv_omega
  refine shuffleK (zs := (["now", "rank", "first", "a", z] : List Str)) P1 (by omega) (by simp) fun ys s2 P2 K2 pm => ?_
  have yl : ys.length = 5 := pm.length_eq
  have yn : ∀ y ∈ ys, Nm y := fun y hy => five_nm hz y (pm.mem_iff.mp hy)
  bv_omega
  refine u_now (a := (ys.take 2).map D.str) ?_ ?_
  · show some (cutD (ys.map D.str) none (some 2)) = _
    rw [cutD_strs]
    have := cut_take (zs := ys) (m := 2)
    rw [← this]
    rfl
  bv_omega
  refine waitK P2 (by omega) fun c s3 P3 K3 hc => ?_
  bv_omega
  refine ⟨by simp, ?_⟩
  bv_omega
  refine ⟨by simp, ?_⟩
  bv_omega
  refine ⟨by simp, ?_⟩
  bv_omega
  refine z_seqI ?_
  bv_omega
  refine ⟨by simp, ?_⟩
  refine ⟨_, .inr rfl, ?_⟩
  have A2 : (ys.take 2).length = 2 := by rw [List.length_take]; omega
  have An : ∀ y ∈ ys.take 2, Nm y := fun y hy => yn y (List.mem_of_mem_take hy)
  generalize ys.take 2 = A at A2 An
  refine (loop_inv (fun i env s => s = s3 ∧ ∃ (L : List D) (p4 p5 p6 : Sl), env = [.val (.cell k), .val (.lst (A.map D.str)), .val (.lst [.int 0, .int c]), .val (.lst L), p4, p5, p6, .un, .un, .un, .un] ∧ Gl 0 L ∧ L.length = 4 * i) _ 0 _ _ ⟨rfl, [], _, _, _, rfl, fun x hx => (nomatch hx), rfl⟩ ?_ (fun _ _ _ => rfl)).mono ?_
  · rintro i x e s hx ⟨rfl, L, p4, p5, p6, rfl, hL, ll⟩
    rw [Nat.zero_add] at ll ⊢
    have kk : ∃ kd : Str, x = .str kd ∧ (kd = "of" ∨ kd = "now") := by
      have := List.mem_of_getElem? hx
      simp only [List.mem_cons, List.not_mem_nil, or_false] at this
      rcases this with rfl | rfl
      · exact ⟨_, rfl, .inl rfl⟩
      · exact ⟨_, rfl, .inr rfl⟩
    obtain ⟨kd, rfl, hk⟩ := kk
    have i2 : i < 2 := (List.getElem?_eq_some_iff.mp hx).1
    refine ⟨rfl, _, rfl, ?_⟩
    refine z_for ?_
    refine z_seqI ?_
    bv_omega
    refine ⟨_, .inl rfl, ?_⟩
    refine (loop_inv (fun j env s' => s' = s ∧ ∃ (M : List D) (p5 p6 : Sl), env = [.val (.cell k), .val (.lst (A.map D.str)), .val (.lst [.int 0, .int c]), .val (.lst M), .val (.str kd), p5, p6, .un, .un, .un, .un] ∧ Gl 0 M ∧ M.length = 4 * i + 2 * j) _ 0 _ _ ⟨rfl, L, _, _, rfl, hL, ll⟩ ?_ (fun _ _ _ => rfl)).mono ?_
    · rintro j x e s' hx ⟨rfl, M, p5, p6, rfl, hM, ml⟩
      rw [Nat.zero_add] at ml ⊢
      rw [List.getElem?_map] at hx
      obtain ⟨nm, hnm, rfl⟩ := Option.map_eq_some_iff.mp hx
      have j2 : j < A.length := (List.getElem?_eq_some_iff.mp hnm).1
      have hn := An nm (List.mem_of_getElem? hnm)
      refine ⟨rfl, _, rfl, ?_⟩
      bv_omega
      refine z_seqI ?_
      bv_omega
      refine ⟨_, .inl rfl, by simp, ?_⟩
      refine Ok.use (comp_yes (fun d => .tup [.str kd, .str nm, d]) rfl [.int 0, .int c] fun x _ => ?_) ?_
      · refine ⟨_, rfl, ?_⟩
        bv_omega
        exact ⟨by simp, rfl, rfl⟩
      bv_omega
      refine u_addL rfl rfl (by simp; omega) ?_
      refine ⟨_, .inl rfl, rfl, _, .val (.str nm), p6, rfl, hM.app fun x hx => ?_, ?_⟩
      · simp only [List.map_cons, List.map_nil, List.mem_cons, List.not_mem_nil, or_false] at hx
        rcases hx with rfl | rfl
        · exact gt_part hk hn (by decide)
        · exact gt_part hk hn hc
      · rw [List.length_append]
        show M.length + 2 = _
        omega
    · rintro o s' ⟨e, rfl, rfl, M, p5, p6, rfl, hM, ml⟩
      rw [List.length_map, A2, Nat.zero_add] at ml
      exact ⟨_, .inl rfl, rfl, M, _, p5, p6, rfl, hM, by omega⟩
  rintro o s ⟨e, rfl, rfl, L, p4, p5, p6, rfl, hL, ll⟩
  have ll : L.length = 8 := ll
  bv_omega
  refine u_now (a := L) rfl ?_
  bv_omega
  refine z_seqI ?_
  bv_omega
  refine ⟨_, .inl rfl, ?_⟩
  refine (loop_inv (fun i env s' => s' = s ∧ ∃ (F : List D) (p8 : Sl), env = [.val (.cell k), .val (.lst (A.map D.str)), .val (.lst [.int 0, .int c]), .val (.lst L), p4, p5, p6, .val (.lst F), p8, .un, .un] ∧ Gl 2 F ∧ F.length ≤ 8 + 4 * i ∧ 8 ≤ F.length) _ 0 _ _ ⟨rfl, L, _, rfl, hL.up (by decide), by omega, by omega⟩ ?_ (fun _ _ _ => rfl)).mono ?_
  · rintro i x e s' hx ⟨rfl, F, p8, rfl, hF, fl, f8⟩
    rw [Nat.zero_add] at fl ⊢
    have i8 : i < L.length := (List.getElem?_eq_some_iff.mp hx).1
    have hx0 := hL x (List.mem_of_getElem? hx)
    obtain ⟨g1, g2⟩ := over_gl (d := 0) (xs := [x]) (fun y hy => by rw [List.mem_singleton.mp hy]; exact hx0) (by simp) (by simp)
    refine ⟨rfl, _, rfl, ?_⟩
    bv_omega
    refine ⟨by simp, ?_⟩
    bv_omega
    refine Ok.use (over_ok (by simp)) ?_
    refine u_addL rfl rfl (by omega) ?_
    exact ⟨_, .inl rfl, rfl, _, _, rfl, hF.app (g1.up (by decide)), by rw [List.length_append]; omega, by rw [List.length_append]; omega⟩
  rintro o s' ⟨e, rfl, rfl, F, p8, rfl, hF, fl, f8⟩
  rw [ll] at fl
  bv_omega
  refine z_seqI ?_
  bv_omega
  refine u_now (a := L.take 3) (by
    show some (cutD L none (some 3)) = _
    rw [← cut_take]
    rfl) ?_
  refine ⟨_, .inl rfl, ?_⟩
  refine (loop_inv (fun i env s => s = s' ∧ ∃ (F : List D) (p8 p9 : Sl), env = [.val (.cell k), .val (.lst (A.map D.str)), .val (.lst [.int 0, .int c]), .val (.lst L), p4, p5, p6, .val (.lst F), p8, p9, .un] ∧ Gl 2 F ∧ F.length ≤ 40 + 32 * i ∧ 8 ≤ F.length) _ 0 _ _ ⟨rfl, F, _, _, rfl, hF, by omega, f8⟩ ?_ (fun _ _ _ => rfl)).mono ?_
  · rintro i x e s hx ⟨rfl, F, p8, p9, rfl, hF, fl, f8⟩
    rw [Nat.zero_add] at fl ⊢
    have hxm := List.mem_of_mem_take (List.mem_of_getElem? hx)
    refine ⟨rfl, _, rfl, ?_⟩
    refine z_for ?_
    refine z_seqI ?_
    bv_omega
    refine u_now (a := cutD L (some 2) (some 5)) rfl ?_
    refine ⟨_, .inl rfl, ?_⟩
    have cl := cut_len (xs := L) (lo := some 2) (hi := some 5)
    refine (loop_inv (fun j env s' => s' = s ∧ ∃ (M : List D) (p9 : Sl), env = [.val (.cell k), .val (.lst (A.map D.str)), .val (.lst [.int 0, .int c]), .val (.lst L), p4, p5, p6, .val (.lst M), .val x, p9, .un] ∧ Gl 2 M ∧ M.length ≤ 40 + 32 * i + 4 * j ∧ 8 ≤ M.length) _ 0 _ _ ⟨rfl, F, _, rfl, hF, by omega, f8⟩ ?_ (fun _ _ _ => rfl)).mono ?_
    · rintro j y e s' hy ⟨rfl, M, p9, rfl, hM, ml, m8⟩
      rw [Nat.zero_add] at ml ⊢
      have j8 : j < (cutD L (some 2) (some 5)).length := (List.getElem?_eq_some_iff.mp hy).1
      have i3 : i < (L.take 3).length := (List.getElem?_eq_some_iff.mp hx).1
      rw [List.length_take] at i3
      have hym := cut_mem (List.mem_of_getElem? hy)
      obtain ⟨g1, g2⟩ := over_gl (d := 0) (xs := [x, y]) (fun z hz => by
        simp only [List.mem_cons, List.not_mem_nil, or_false] at hz
        rcases hz with rfl | rfl
        · exact hL _ hxm
        · exact hL _ hym) (by simp) (by simp)
      refine ⟨rfl, _, rfl, ?_⟩
      bv_omega
      refine ⟨by simp, ?_⟩
      bv_omega
      refine Ok.use (over_ok (by simp)) ?_
      refine u_addL rfl rfl (by omega) ?_
      exact ⟨_, .inl rfl, rfl, _, _, rfl, hM.app (g1.up (by decide)), by rw [List.length_append]; omega, by rw [List.length_append]; omega⟩
    · rintro o s' ⟨e, rfl, rfl, M, p9, rfl, hM, ml, m8⟩
      have ml : M.length ≤ 40 + 32 * i + 4 * (0 + (cutD L (some 2) (some 5)).length) := ml
      exact ⟨_, .inl rfl, rfl, M, _, _, rfl, hM, by omega, m8⟩
  rintro o s'' ⟨e, rfl, rfl, F, p8, p9, rfl, hF, fl, f8⟩
  have fl : F.length ≤ 136 := by
    have : (L.take 3).length ≤ 3 := by rw [List.length_take]; omega
    have fl : F.length ≤ 40 + 32 * (0 + (L.take 3).length) := fl
    omega
  obtain ⟨a, ea, ea'⟩ := atI_in (xs := L) (r := 0) (by decide) (by omega)
  obtain ⟨b, eb, eb'⟩ := atI_in (xs := L) (r := 1) (by decide) (by omega)
  have ec : L[7]? = some (L[7]'(by omega)) := List.getElem?_eq_getElem _
  have ec2 := atI_end (i := 7) ll ec
  have hlast := hL _ (List.mem_of_getElem? ec)
  generalize L[7]'(by omega) = lst at ec2 hlast
  obtain ⟨g1, g2⟩ := over_gl (d := 0) (xs := [a, b]) (fun z hz => by
    simp only [List.mem_cons, List.not_mem_nil, or_false] at hz
    rcases hz with rfl | rfl
    · exact hL _ (List.mem_of_getElem? ea')
    · exact hL _ (List.mem_of_getElem? eb')) (by simp) (by simp)
  bv_omega
  refine z_seqI ?_
  bv_omega
  refine u_ixL ea ?_
  bv_omega
  refine u_ixL eb ?_
  bv_omega
  refine ⟨by simp, ?_⟩
  bv_omega
  refine Ok.use (over_ok (by simp)) ?_
  refine ⟨_, .inl rfl, ?_⟩
  refine (loop_inv (fun i env s => s = s'' ∧ ∃ (F : List D) (p10 : Sl), env = [.val (.cell k), .val (.lst (A.map D.str)), .val (.lst [.int 0, .int c]), .val (.lst L), p4, p5, p6, .val (.lst F), p8, p9, p10] ∧ Gl 2 F ∧ F.length ≤ 136 + 12 * i ∧ 8 ≤ F.length) _ 0 _ _ ⟨rfl, F, _, rfl, hF, by omega, f8⟩ ?_ (fun _ _ _ => rfl)).mono ?_
  · rintro i x e s hx ⟨rfl, F, p10, rfl, hF, fl, f8⟩
    rw [Nat.zero_add] at fl ⊢
    have i4 : i < (overL [a, b]).length := (List.getElem?_eq_some_iff.mp hx).1
    have hx1 := g1 x (List.mem_of_getElem? hx)
    have hl1 := hlast.up (show 0 ≤ 1 by decide)
    obtain ⟨u1, v1⟩ := over_gl (d := 1) (xs := [x]) (fun z hz => by rw [List.mem_singleton.mp hz]; exact hx1) (by simp) (by simp)
    obtain ⟨u2, v2⟩ := over_gl (d := 1) (xs := [x, lst]) (fun z hz => by
      simp only [List.mem_cons, List.not_mem_nil, or_false] at hz
      rcases hz with rfl | rfl
      · exact hx1
      · exact hl1) (by simp) (by simp)
    obtain ⟨u3, v3⟩ := over_gl (d := 1) (xs := [lst, x]) (fun z hz => by
      simp only [List.mem_cons, List.not_mem_nil, or_false] at hz
      rcases hz with rfl | rfl
      · exact hl1
      · exact hx1) (by simp) (by simp)
    refine ⟨rfl, _, rfl, ?_⟩
    bv_omega
    refine ⟨by simp, ?_⟩
    bv_omega
    refine Ok.use (over_ok (by simp)) ?_
    refine u_addL rfl rfl (by omega) ?_
    bv_omega
    refine u_ixL ec2 ?_
    bv_omega
    refine ⟨by simp, ?_⟩
    bv_omega
    refine Ok.use (over_ok (by simp)) ?_
    refine u_addL rfl rfl (by rw [List.length_append]; omega) ?_
    bv_omega
    refine u_ixL ec2 ?_
    bv_omega
    refine ⟨by simp, ?_⟩
    bv_omega
    refine Ok.use (over_ok (by simp)) ?_
    refine u_addL rfl rfl (by rw [List.length_append, List.length_append]; omega) ?_
    exact ⟨_, .inl rfl, rfl, _, _, rfl, ((hF.app u1).app u2).app u3, by rw [List.length_append, List.length_append, List.length_append]; omega, by rw [List.length_append, List.length_append, List.length_append]; omega⟩
  rintro o s ⟨e, rfl, rfl, F, p10, rfl, hF, fl, f8⟩
  have fl : F.length ≤ 136 + 12 * (0 + (overL [a, b]).length) := fl
  bv_omega
  exact q F s (P3.mono (by omega)) ((K1.trans K2).trans K3) hF (by omega) (by omega)
end K94

/-! YB94: the dict of texts. -/
namespace LW
open PySem L2
theorem z_eOwn {cn : Str} {cs : List Str} {neg : Bool} {g : FM} {fa fb : SE} {env : LW.Env} {st : Sto} {Q : D → Sto → Prop} (h : Ok (fa env st) fun x s1 => ∃ ns vs, x = .obj cn ns vs ∧ Ok (fb env s1) fun y s2 => okTy s2 cs y = true ∧ Ok (g [.obj cn ns vs, y] s2) fun r s3 => ∃ b, r = .bl b ∧ Q (.bl (if neg then !b else b)) s3) : Ok (eOwn cn cs neg g fa fb env st) Q := by
  obtain ⟨x, s1, e1, ns, vs, rfl, y, s2, e2, ok, r, s3, e3, b, rfl, q⟩ := h
  refine ⟨_, s3, ?_, q⟩
  unfold eOwn
  rw [e1]
  dsimp only
  rw [if_pos rfl, e2]
  dsimp only
  rw [if_pos ok, e3]
end LW
namespace K94
open PySem L2 LW
open SX (S)
open TL (numL pre joinL)
theorem joinL_mem {a : List Nat} {c : Nat} : ∀ {ls : List (List Nat)}, c ∈ joinL a ls → c ∈ a ∨ ∃ l ∈ ls, c ∈ l
  | [], h => by cases h
  | [p], h => .inr ⟨p, by simp, h⟩
  | p :: q :: r, h => by
    rcases List.mem_append.mp (show c ∈ p ++ (a ++ joinL a (q :: r)) from h) with h | h
    · exact .inr ⟨p, by simp, h⟩
    · rcases List.mem_append.mp h with h | h
      · exact .inl h
      · rcases joinL_mem h with h | ⟨l, hl, h⟩
        · exact .inl h
        · exact .inr ⟨l, by simp [List.mem_cons.mp hl], h⟩
theorem Nm.asc {n : Str} (h : Nm n) : Asc n.cps.toList := fun c hc => by have := let_rng c (h.abc c hc); omega
theorem cx_asc : ∀ (d : Nat) (x : D), Gt d x → ∀ f, Asc (cx f x)
  | d, _, hx, 0 => fun c hc => by cases hc
  | d, _, .of (n := n) (w := w) hn hw, f + 1 => by
    show Asc (n.cps.toList ++ 32 :: nu w)
    exact (Nm.asc hn).app fun c hc => by
      rcases List.mem_cons.mp hc with rfl | hc
      · decide
      · exact nu_asc w c hc
  | d, _, .now (n := n) (w := w) hn hw, f + 1 => by
    show Asc ([110, 111, 119, 32] ++ (n.cps.toList ++ 32 :: nu w))
    refine Asc.app (by intro c hc; simp at hc; omega) ((Nm.asc hn).app fun c hc => ?_)
    rcases List.mem_cons.mp hc with rfl | hc
    · decide
    · exact nu_asc w c hc
  | d + 1, _, .node (k := k) (xs := xs) hk h1 h2 h, f + 1 => by
    have ka : Asc k.cps.toList := by
      rcases hk with rfl | rfl
      · exact fun c hc => (by revert c; decide +kernel)
      · exact fun c hc => (by revert c; decide +kernel)
    show Asc (k.cps.toList ++ 40 :: (joinL [44, 32] (xs.map (cx f)) ++ [41]))
    refine ka.app fun c hc => ?_
    rcases List.mem_cons.mp hc with rfl | hc
    · decide
    rcases List.mem_append.mp hc with hc | hc
    · rcases joinL_mem hc with hc | ⟨l, hl, hc⟩
      · simp at hc; omega
      · obtain ⟨x, hx, rfl⟩ := List.mem_map.mp hl
        exact cx_asc d x (h x hx) f c hc
    · simp at hc; omega
  | d + 1, _, .rank (r := r) (xs := xs) h1 h2 h3 h, f + 1 => by
    have ka : Asc ("rank" : Str).cps.toList := fun c hc => (by revert c; decide +kernel)
    show Asc ((("rank" : Str).cps.toList ++ 32 :: nu r) ++ 40 :: (joinL [44, 32] (xs.map (cx f)) ++ [41]))
    refine (ka.app fun c hc => ?_).app fun c hc => ?_
    · rcases List.mem_cons.mp hc with rfl | hc
      · decide
      · exact nu_asc r c hc
    rcases List.mem_cons.mp hc with rfl | hc
    · decide
    rcases List.mem_append.mp hc with hc | hc
    · rcases joinL_mem hc with hc | ⟨l, hl, hc⟩
      · simp at hc; omega
      · obtain ⟨x, hx, rfl⟩ := List.mem_map.mp hl
        exact cx_asc d x (h x hx) f c hc
    · simp at hc; omega
theorem tX_ok {x : D} (h : Gt 2 x) : PyData.strOk (tX x) = true := (cx_asc 2 x h 11).ok
theorem noTag_strs {l : List Str} : isTag (l.map D.str) = false := by cases l <;> rfl
/-! ### the dict -/
abbrev tdK (zs : List Str) (f : Str → List D) : DK := (zs.map Sum.inr, zs.map fun z => D.lst (f z))
theorem get_td {f : Str → List D} {n : Str} : ∀ {zs : List Str}, n ∈ zs → getD (zs.map Sum.inr) (zs.map fun z => D.lst (f z)) (Sum.inr n) = some (.lst (f n))
  | [], hn => by cases hn
  | z :: zs, hn => by
    rw [List.map_cons, List.map_cons]
    unfold getD
    by_cases e : z = n
    · rw [if_pos (by rw [e]), e]
    · rw [if_neg fun q => e (Sum.inr.inj q)]
      exact get_td ((List.mem_cons.mp hn).resolve_left fun q => e q.symm)
theorem no_td {f : Str → List D} {n : Str} : ∀ {zs : List Str}, n ∉ zs → getD (zs.map Sum.inr) (zs.map fun z => D.lst (f z)) (Sum.inr n) = none
  | [], _ => rfl
  | z :: zs, hn => by
    rw [List.map_cons, List.map_cons]
    unfold getD
    rw [if_neg fun q => hn (by rw [Sum.inr.inj q]; simp)]
    exact no_td fun q => hn (by simp [q])
def addS (zs : List Str) (z : Str) : List Str := if z ∈ zs then zs else zs ++ [z]
theorem putV_td {f : Str → List D} {z : Str} {v : List D} : ∀ {zs : List Str}, putV (zs.map Sum.inr) (zs.map fun y => D.lst (f y)) (Sum.inr z) (.lst v) = zs.map fun y => D.lst (if y = z then v else f y)
  | [] => rfl
  | y :: zs => by
    rw [List.map_cons, List.map_cons, List.map_cons]
    unfold putV
    rw [putV_td]
    by_cases e : y = z
    · rw [if_pos (by rw [e]), if_pos e]
    · rw [if_neg fun q => e (Sum.inr.inj q), if_neg e]
theorem put_td {zs : List Str} {f : Str → List D} {z : Str} {v : List D} : putKD (tdK zs f) (Sum.inr z) (.lst v) = tdK (addS zs z) (fun y => if y = z then v else f y) := by
  unfold putKD addS
  by_cases h : z ∈ zs
  · rw [if_pos (List.mem_map.mpr ⟨z, h, rfl⟩), if_pos h, putV_td]
  · rw [if_neg (fun q => by
      obtain ⟨y, hy, e⟩ := List.mem_map.mp q
      exact h (Sum.inr.inj e ▸ hy)), if_neg h]
    have e : (zs.map fun y => D.lst (if y = z then v else f y)) = zs.map fun y => D.lst (f y) := List.map_congr_left fun y hy => by rw [if_neg fun q : y = z => h (q ▸ hy)]
    show _ = ((zs ++ [z]).map Sum.inr, (zs ++ [z]).map fun y => D.lst (if y = z then v else f y))
    rw [List.map_append, List.map_append, e]
    show _ = (_, _ ++ [D.lst (if z = z then v else f z)])
    rw [if_pos rfl]
    rfl
theorem mem_addS {zs : List Str} {z y : Str} : y ∈ addS zs z ↔ y ∈ zs ∨ y = z := by
  unfold addS
  split
  · rename_i h
    exact ⟨.inl, fun q => q.elim id fun e => e ▸ h⟩
  · rw [List.mem_append, List.mem_singleton]
theorem addS_len {zs : List Str} {z : Str} : (addS zs z).length ≤ zs.length + 1 := by
  unfold addS
  split
  · omega
  · rw [List.length_append]
    exact Nat.le_refl _
structure Td (s : Sto) (j u : Nat) (zs us : List Str) (f : Str → List D) (m : Nat) : Prop where
  d : s[j]? = some (unC (tdK zs f))
  u : s[u]? = some (us.map D.str)
  good : ∀ z ∈ zs, 1 ≤ (f z).length ∧ (f z).length ≤ m ∧ ∀ t ∈ f z, Gt 2 t ∧ tX t = z
  sub : ∀ z ∈ us, z ∈ zs
  ul : us.length ≤ m
  zl : zs.length ≤ m
section
variable {s : Sto} {j u m : Nat} {zs us : List Str} {f : Str → List D}
theorem Td.g (t : Td s j u zs us f m) : dicG s (.dcl j) = some (tdK zs f) := dcG_of t.d
theorem Td.has (t : Td s j u zs us f m) {z : Str} : oInK true (.str z) (.dcl j) s = some (.bl (!decide (z ∈ zs))) := by
  unfold oInK
  rw [t.g]
  show some (D.bl (!decide ((Sum.inr z : Key) ∈ zs.map Sum.inr))) = _
  have : decide ((Sum.inr z : Key) ∈ zs.map Sum.inr) = decide (z ∈ zs) := decide_eq_decide.mpr ⟨fun h => by
    obtain ⟨m, hm, e⟩ := List.mem_map.mp h
    exact Sum.inr.inj e ▸ hm, fun h => List.mem_map.mpr ⟨z, h, rfl⟩⟩
  rw [this]
theorem Td.dx (t : Td s j u zs us f m) {z : Str} (h : z ∈ zs) : oDx (.dcl j) (.str z) s = some (.lst (f z)) := by
  unfold oDx
  rw [t.g]
  exact get_td h
end
end K94

/-! ZB94: one term of the law. -/
namespace K94
open PySem L2 LW
local macro_rules | `(tactic| bv_omega) => `(tactic| (repeat (first | with_reducible first | refine z_var (by with_unfolding_all rfl) ?_ | refine z_pk (by with_unfolding_all rfl) ?_ | refine z_pkO (by with_unfolding_all rfl) ?_ | refine z_retO (by with_unfolding_all rfl) ?_ | refine z_dictO (by with_unfolding_all rfl) ?_ | refine z_c ?_ | refine z_op ?_ | refine z_nil ?_ | refine z_cons ?_ | refine z_tup ?_ | refine z_lst ?_ | refine z_L ?_ | refine z_bi ?_ | refine z_call ?_ | refine z_meth ?_ | refine z_prop ?_ | refine z_fld ?_ | refine z_make ?_ | refine z_not ?_ | refine z_neg ?_ | refine z_bits ?_ | refine t_of ?_ | refine t_not ?_ | refine z_slN ?_ | refine z_oN ?_ | refine z_oS ?_ | refine z_snil ?_ | refine z_seq ?_ | refine z_set ?_ | refine z_own ?_ | refine z_ret ?_ | refine z_retC ?_ | refine z_drop ?_ | refine z_frz ?_ | refine z_app ?_ | refine z_appC ?_ | refine z_putC ?_ | refine z_for ?_ | refine z_lc ?_ | refine z_yes ?_ | refine z_kv ?_ | refine z_ko ?_ | refine z_par ?_ | refine z_unp ?_ | refine z_sfld ?_ | refine z_rg1 ?_ | refine z_rg2 ?_ | refine z_rg3 ?_ | refine z_and ?_ | refine z_or ?_ | refine z_eif ?_ | refine t_and ?_ | refine t_or ?_ | refine z_sif ?_ | refine u_add ?_ | refine u_sub ?_ | refine u_lt ?_ | refine u_le ?_ | refine u_gt ?_ | refine u_ge ?_ | refine u_isN ?_ | refine u_notN ?_ | refine z_par3 ?_ | refine z_dcl ?_ | refine z_cel ?_ | refine z_putDC ?_ | refine z_clrC ?_ | refine z_ownD ?_ | refine z_lenSN ?_ | refine z_D ?_ | refine z_dComp ?_ | refine z_lc2 ?_ | refine z_sn ?_ | refine z_makeC ?_ | refine z_methC ?_ | refine z_fldC ?_ | refine z_sfldC ?_ | refine z_xSet ?_ | refine z_methX ?_ | refine z_methCX ?_ | refine z_xIfE ?_ | refine z_xEL ?_ | refine z_xPar2 (by decide) ?_ | refine z_kD2 ?_ | refine z_par2 (by decide) ?_ | refine z_d0 ?_ | refine z_xBare ?_ | refine z_xFrz ?_ | refine z_xFor ?_ | refine z_sortIt ?_ | refine z_lenO ?_ | refine z_xSeq ?_ | refine z_xIf ?_ | refine z_xRaise ?_ | refine z_xL ?_ | refine z_xNil ?_ | refine z_xDrop ?_ | refine z_xRet ?_ | refine z_eCallX ?_ | refine z_sTry ?_ | refine z_DT ?_ | refine z_t0 ?_ | refine z_Td ?_ | refine z_ownT ?_ | refine z_putT ?_ | refine z_frzT ?_ | refine z_par3T ?_ | refine z_toT ?_ | refine z_join ?_ | refine z_sw3 ?_ | (with_reducible refine u_mul ?_ ?_; next => first | exact mulC_r (by decide) (by decide) | exact mulC_l (by decide) (by decide) | exact mulC_r (by omega) (by omega) | exact mulC_l (by omega) (by omega)) | (with_reducible refine u_mod ?_ ?_; next => first | decide | assumption | omega) | (with_reducible refine u_div ?_ ?_; next => first | exact divC_s (by decide) (by decide) | exact divC_s (by omega) (by omega)))))
open SX (S)
open TL (numL pre joinL)
noncomputable abbrev tlP : SS := (sPutDC (eVar 2) (ePeek 6) (eOp oAdd (eGet (ePeek 2) (ePeek 6) (eL (lDisp (aNil)))) (eL (lDisp (aCons (eVar 5) (aNil))))))
noncomputable abbrev tlB : SS := (sSeq (sSet 6 (eCall m_rule_text [] (aCons (eMake "Rule" m_Rule___init__ [] (aCons (eVar 5) (aNil))) (aNil))))
  (sSeq (sIf (bOr (bOf (eOp oNe (ePeek 6) (eCall m__law_term_text [] (aCons (eVar 5) (aNil))))) (bOf (eOp oNe (eBi gRepr (aCons (eMeth "Rule" "term" m_Rule_term [] (eCall m_read_rule [] (aCons (eVar 6) (aNil))) (aNil)) (aNil))) (eBi gRepr (aCons (ePeek 5) (aNil))))))
  (sRet (eC (.bl false)))
  (sNil))
  (sSeq (sIf (bOf (eOp (oInK true) (ePeek 6) (ePeek 2)))
  (sAppC (eVar 4) (eVar 6))
  (sNil))
  (sPutDC (eVar 2) (ePeek 6) (eOp oAdd (eGet (ePeek 2) (ePeek 6) (eL (lDisp (aNil)))) (eL (lDisp (aCons (eVar 5) (aNil)))))))))
theorem req {x y : D} {st : Sto} (hx : Gt 2 x) (hy : Gt 2 y) : ∃ b, (b = true ↔ x = y) ∧ m_Rule___eq__ [ruD x, ruD y] st = some (.bl b, st) := by
  refine ⟨_, eqv_iff hx hy, ?_⟩
  refine Ok.eq (z_fn rfl ?_)
  unfold b_Rule___eq__
  bv_omega
  refine u_now (a := .bl true) rfl ?_
  refine b_t rfl ?_
  bv_omega
  refine ⟨rfl, u_now form_ok ?_⟩
  bv_omega
  refine ⟨rfl, u_now form_ok ?_⟩
  refine u_eq (py60 hx) (py60 hy) ?_
  exact ⟨rfl, rfl⟩
theorem Td.lu {s : Sto} {j u m : Nat} {zs us : List Str} {f : Str → List D} (t : Td s j u zs us f m) : lcG s u = some (us.map D.str) := lcG_of t.u noTag_strs
theorem tl_put {j : Nat} {s : Sto} {zs : List Str} {f : Str → List D} {t : D} {q0 q1 q3 q4 p7 p8 : Sl} (dj : s[j]? = some (unC (tdK zs f))) (zl : zs.length ≤ 1000) (fl : ∀ z ∈ zs, (f z).length ≤ 1000) :
    Ok (tlP [q0, q1, .val (.dcl j), q3, q4, .val t, .val (.str (tX t)), p7, p8] s) fun o s' => o = .nx [q0, q1, .val (.dcl j), q3, q4, .val t, .val (.str (tX t)), p7, p8] ∧ s' = s.set j (unC (tdK (addS zs (tX t)) fun y => if y = tX t then (if tX t ∈ zs then f (tX t) else []) ++ [t] else f y)) := by
  unfold tlP
  bv_omega
  refine z_get ?_
  bv_omega
  refine ⟨⟨_, dcG_of dj⟩, ?_⟩
  bv_omega
  refine ⟨_, rfl, ?_⟩
  bv_omega
  refine ⟨by simp, ?_⟩
  refine ⟨_, dcG_of dj, ?_⟩
  bv_omega
  refine ⟨by simp, ?_⟩
  by_cases h : tX t ∈ zs
  · rw [show getD (tdK zs f).1 (tdK zs f).2 (Sum.inr (tX t)) = _ from get_td h]
    refine u_addL rfl rfl (by have := fl _ h; rw [List.length_singleton]; omega) ?_
    bv_omega
    refine ⟨Sum.inr (tX t), tdK zs f, rfl, dj, by rw [List.length_map]; omega, ?_⟩
    rw [put_td]
    simp only [if_pos h]
    exact ⟨trivial, trivial⟩
  · rw [show getD (tdK zs f).1 (tdK zs f).2 (Sum.inr (tX t)) = _ from no_td h]
    refine u_addL rfl rfl (by rw [List.length_singleton]; simp) ?_
    bv_omega
    refine ⟨Sum.inr (tX t), tdK zs f, rfl, dj, by rw [List.length_map]; omega, ?_⟩
    rw [put_td]
    simp only [if_neg h]
    exact ⟨trivial, trivial⟩
theorem Td.nw {s s1 : Sto} {j u m : Nat} {zs us us1 : List Str} {f : Str → List D} {t : D} (T : Td s j u zs us f m) (ju : j ≠ u) (ht : Gt 2 t) (d1 : s1[j]? = some (unC (tdK zs f))) (u1 : s1[u]? = some (us1.map D.str)) (h1 : ∀ z ∈ us1, z ∈ zs ∨ z = tX t) (l1 : us1.length ≤ m + 1) :
    Td (s1.set j (unC (tdK (addS zs (tX t)) fun y => if y = tX t then (if tX t ∈ zs then f (tX t) else []) ++ [t] else f y))) j u (addS zs (tX t)) us1 (fun y => if y = tX t then (if tX t ∈ zs then f (tX t) else []) ++ [t] else f y) (m + 1) where
  d := List.getElem?_set_self (List.getElem?_eq_some_iff.mp d1).1
  u := by rw [List.getElem?_set_ne ju]; exact u1
  good := by
    intro z hz
    show 1 ≤ (if z = tX t then _ else f z).length ∧ (if z = tX t then _ else f z).length ≤ m + 1 ∧ ∀ x ∈ (if z = tX t then _ else f z), _
    by_cases e : z = tX t
    · subst e
      rw [if_pos rfl]
      by_cases h : tX t ∈ zs
      · rw [if_pos h]
        obtain ⟨g1, g2, g3⟩ := T.good _ h
        refine ⟨by rw [List.length_append]; omega, by rw [List.length_append, List.length_singleton]; omega, fun x hx => ?_⟩
        rcases List.mem_append.mp hx with hx | hx
        · exact g3 x hx
        · rw [List.mem_singleton.mp hx]; exact ⟨ht, rfl⟩
      · rw [if_neg h]
        refine ⟨Nat.le_refl _, by show 1 ≤ m + 1; omega, fun x hx => ?_⟩
        rw [List.mem_singleton.mp hx]; exact ⟨ht, rfl⟩
    · rw [if_neg e]
      obtain ⟨g1, g2, g3⟩ := T.good z ((mem_addS.mp hz).resolve_right e)
      exact ⟨g1, by omega, g3⟩
  sub := fun z hz => mem_addS.mpr (h1 z hz)
  ul := l1
  zl := Nat.le_trans addS_len (Nat.succ_le_succ T.zl)
theorem tl_step {k j u m : Nat} {s : Sto} {zs us : List Str} {f : Str → List D} {t : D} {q0 q3 p6 p7 p8 : Sl} (ju : j ≠ u) (T : Td s j u zs us f m) (hm : m ≤ 1000) (ht : Gt 2 t) :
    Ok (tlB [q0, .val (.cell k), .val (.dcl j), q3, .val (.cell u), .val t, p6, p7, p8] s) fun o s' => ∃ zs' us' f', o = .nx [q0, .val (.cell k), .val (.dcl j), q3, .val (.cell u), .val t, .val (.str (tX t)), p7, p8] ∧ Td s' j u zs' us' f' (m + 1) ∧ ∀ i, i ≠ j → i ≠ u → s'[i]? = s[i]? := by
  unfold tlB
  bv_omega
  refine Ok.use (rule_ok (ht.isT.up (by decide))) ?_
  bv_omega
  refine Ok.use (ruletext_ok ht) ?_
  bv_omega
  refine Ok.use (lterm_ok 2 t ht (by decide) 11 (by decide)) ?_
  bv_omega
  refine u_neS (tX_ok ht) ?_
  refine b_f rfl ?_
  bv_omega
  refine Ok.use (readrule_ok ht) ?_
  bv_omega
  refine ⟨rfl, by decide, ?_⟩
  bv_omega
  refine Ok.use (rterm_ok (ht.isT.up (by decide))) ?_
  bv_omega
  have sh := sh_T 2 t ht 11 (by decide)
  refine u_repr (py60 ht) sh (by decide) ?_
  bv_omega
  refine u_repr (py60 ht) sh (by decide) ?_
  refine u_neS sh.ok ?_
  refine b_f rfl ?_
  bv_omega
  refine u_now T.has ?_
  by_cases hz : tX t ∈ zs
  · rw [decide_eq_true hz]
    refine b_f rfl ?_
    refine z_snil ?_
    refine (tl_put T.d (by have := T.zl; omega) fun z hz => by have := (T.good z hz).2.1; omega).mono ?_
    rintro o s' ⟨rfl, rfl⟩
    refine ⟨_, _, _, rfl, T.nw ju ht T.d T.u (fun z h => .inl (T.sub z h)) (by have := T.ul; omega), fun i h1 h2 => ?_⟩
    rw [List.getElem?_set_ne (fun e => h1 e.symm)]
  · rw [decide_eq_false hz]
    refine b_t rfl ?_
    refine z_appC ?_
    refine z_var (by with_unfolding_all rfl) ?_
    refine ⟨⟨_, T.lu⟩, ?_⟩
    refine z_var (by with_unfolding_all rfl) ?_
    refine ⟨_, T.lu, by rw [List.length_map]; have := T.ul; omega, ?_⟩
    have d1 : (s.set u (us.map D.str ++ [.str (tX t)]))[j]? = some (unC (tdK zs f)) := by
      rw [List.getElem?_set_ne (fun e => ju e.symm)]
      exact T.d
    have u1 : (s.set u (us.map D.str ++ [.str (tX t)]))[u]? = some ((us ++ [tX t]).map D.str) := by
      rw [List.getElem?_set_self (List.getElem?_eq_some_iff.mp T.u).1, List.map_append]
      rfl
    have o1 : ∀ i, i ≠ j → i ≠ u → (s.set u (us.map D.str ++ [.str (tX t)]))[i]? = s[i]? := fun i h1 h2 => by
      rw [List.getElem?_set_ne (fun e => h2 e.symm)]
    generalize s.set u (us.map D.str ++ [.str (tX t)]) = s1 at d1 u1 o1
    refine (tl_put d1 (by have := T.zl; omega) fun z hz => by have := (T.good z hz).2.1; omega).mono ?_
    rintro o s' ⟨rfl, rfl⟩
    refine ⟨_, _, _, rfl, T.nw ju ht d1 u1 (fun z h => ?_) (by rw [List.length_append, List.length_singleton]; have := T.ul; omega), fun i h1 h2 => ?_⟩
    · rcases List.mem_append.mp h with h | h
      · exact .inl (T.sub z h)
      · exact .inr (List.mem_singleton.mp h)
    · rw [List.getElem?_set_ne (fun e => h1 e.symm)]
      exact o1 i h1 h2
end K94

/-! ZC94: one purse of the law. -/
namespace K94
open PySem L2 LW
local macro_rules | `(tactic| bv_omega) => `(tactic| (repeat (first | with_reducible first | refine z_var (by with_unfolding_all rfl) ?_ | refine z_pk (by with_unfolding_all rfl) ?_ | refine z_pkO (by with_unfolding_all rfl) ?_ | refine z_retO (by with_unfolding_all rfl) ?_ | refine z_dictO (by with_unfolding_all rfl) ?_ | refine z_c ?_ | refine z_op ?_ | refine z_nil ?_ | refine z_cons ?_ | refine z_tup ?_ | refine z_lst ?_ | refine z_L ?_ | refine z_bi ?_ | refine z_call ?_ | refine z_meth ?_ | refine z_prop ?_ | refine z_fld ?_ | refine z_make ?_ | refine z_not ?_ | refine z_neg ?_ | refine z_bits ?_ | refine t_of ?_ | refine t_not ?_ | refine z_slN ?_ | refine z_oN ?_ | refine z_oS ?_ | refine z_snil ?_ | refine z_seq ?_ | refine z_set ?_ | refine z_own ?_ | refine z_ret ?_ | refine z_retC ?_ | refine z_drop ?_ | refine z_frz ?_ | refine z_app ?_ | refine z_appC ?_ | refine z_putC ?_ | refine z_for ?_ | refine z_lc ?_ | refine z_yes ?_ | refine z_kv ?_ | refine z_ko ?_ | refine z_par ?_ | refine z_unp ?_ | refine z_sfld ?_ | refine z_rg1 ?_ | refine z_rg2 ?_ | refine z_rg3 ?_ | refine z_and ?_ | refine z_or ?_ | refine z_eif ?_ | refine t_and ?_ | refine t_or ?_ | refine z_sif ?_ | refine u_add ?_ | refine u_sub ?_ | refine u_lt ?_ | refine u_le ?_ | refine u_gt ?_ | refine u_ge ?_ | refine u_isN ?_ | refine u_notN ?_ | refine z_par3 ?_ | refine z_dcl ?_ | refine z_cel ?_ | refine z_putDC ?_ | refine z_clrC ?_ | refine z_ownD ?_ | refine z_lenSN ?_ | refine z_D ?_ | refine z_dComp ?_ | refine z_lc2 ?_ | refine z_sn ?_ | refine z_makeC ?_ | refine z_methC ?_ | refine z_fldC ?_ | refine z_sfldC ?_ | refine z_xSet ?_ | refine z_methX ?_ | refine z_methCX ?_ | refine z_xIfE ?_ | refine z_xEL ?_ | refine z_xPar2 (by decide) ?_ | refine z_kD2 ?_ | refine z_par2 (by decide) ?_ | refine z_d0 ?_ | refine z_xBare ?_ | refine z_xFrz ?_ | refine z_xFor ?_ | refine z_sortIt ?_ | refine z_lenO ?_ | refine z_xSeq ?_ | refine z_xIf ?_ | refine z_xRaise ?_ | refine z_xL ?_ | refine z_xNil ?_ | refine z_xDrop ?_ | refine z_xRet ?_ | refine z_eCallX ?_ | refine z_sTry ?_ | refine z_DT ?_ | refine z_t0 ?_ | refine z_Td ?_ | refine z_ownT ?_ | refine z_putT ?_ | refine z_frzT ?_ | refine z_par3T ?_ | refine z_toT ?_ | refine z_join ?_ | refine z_sw3 ?_ | (with_reducible refine u_mul ?_ ?_; next => first | exact mulC_r (by decide) (by decide) | exact mulC_l (by decide) (by decide) | exact mulC_r (by omega) (by omega) | exact mulC_l (by omega) (by omega)) | (with_reducible refine u_mod ?_ ?_; next => first | decide | assumption | omega) | (with_reducible refine u_div ?_ ?_; next => first | exact divC_s (by decide) (by decide) | exact divC_s (by omega) (by omega)))))
open SX (S)
open TL (numL pre joinL)
noncomputable abbrev chB : SS := (sIf (bOf (eOp oNe (eL (lComp (iSeqW (eVar 4)) (asgN 6) (bOf (eOp oNe (eL (lComp (iSeqW (eOp oDx (ePeek 2) (ePeek 6))) (asgN 5) (bOf (eOp oNe (ePeek 5) (eOp oIx (eOp oDx (ePeek 2) (ePeek 6)) (eC (.int 0))))) (eVar 5) [5])) (eL (lDisp (aNil))))) (eVar 6) [6])) (eL (lDisp (aNil)))))
  (sRet (eC (.bl false)))
  (sNil))
noncomputable abbrev eqB : SS := (sSeq (sPar 7 8 (.val (eCall m__law_one_of [] (aCons (eVar 1) (aCons (eVar 3) (aNil))))) (.val (eCall m__law_one_of [] (aCons (eVar 1) (aCons (eVar 3) (aNil))))))
  (sIf (bOf (eOp oNe (eOwn "Rule" CS false m_Rule___eq__ (eMake "Rule" m_Rule___init__ [] (aCons (eVar 7) (aNil))) (eMake "Rule" m_Rule___init__ [] (aCons (eVar 8) (aNil)))) (eOp oEq (eCall m_rule_text [] (aCons (eMake "Rule" m_Rule___init__ [] (aCons (eVar 7) (aNil))) (aNil))) (eCall m_rule_text [] (aCons (eMake "Rule" m_Rule___init__ [] (aCons (eVar 8) (aNil))) (aNil))))))
  (sRet (eC (.bl false)))
  (sNil)))
noncomputable abbrev lwB : SS := (sSeq (sUnp [2, 3, 4] (eTup (aCons (eDcl (eBi gDictP (aCons (eL (lDisp (aNil))) (aNil)))) (aCons (eCall m__law_terms [] (aCons (eVar 1) (aNil))) (aCons (eCel (lDisp (aNil))) (aNil))))))
  (sSeq (sFor (iSeqW (eVar 3)) (asgN 5) tlB)
  (sSeq chB eqB)))
theorem flt_no : ∀ l : List D, List.map id (List.filter (fun _ => false) l) = [] := fun l => by simp
theorem ch_ok {j u m : Nat} {s : Sto} {zs us : List Str} {f : Str → List D} {q0 q1 q3 p5 p6 p7 p8 : Sl} (T : Td s j u zs us f m) (hm : m ≤ 1000) :
    Ok (chB [q0, q1, .val (.dcl j), q3, .val (.cell u), p5, p6, p7, p8] s) fun o s' => o = .nx [q0, q1, .val (.dcl j), q3, .val (.cell u), p5, p6, p7, p8] ∧ s' = s := by
  unfold chB
  bv_omega
  refine z_seqWC ?_
  bv_omega
  refine ⟨u, _, rfl, T.lu, ?_⟩
  refine ⟨by rw [List.length_map]; have := T.ul; omega, ?_⟩
  refine comp_all (fun _ => false) id (by dsimp only; simp only [decide_eq_true_eq]; exact T.lu) _ (fun x hx => ?_) ?_
  · obtain ⟨z, hz, rfl⟩ := List.mem_map.mp hx
    obtain ⟨g1, g2, g3⟩ := T.good z (T.sub z hz)
    refine ⟨_, rfl, ?_, fun h => by cases h⟩
    bv_omega
    refine z_seqW ?_
    bv_omega
    refine u_now (T.dx (T.sub z hz)) ?_
    refine ⟨_, .inl rfl, ?_⟩
    refine ⟨by show (f z).length ≤ _; omega, ?_⟩
    refine comp_all (fun _ => false) id rfl _ (fun y hy => ?_) ?_
    · refine ⟨_, rfl, ?_, fun h => by cases h⟩
      bv_omega
      refine u_now (T.dx (T.sub z hz)) ?_
      bv_omega
      obtain ⟨d, ed, ed'⟩ := atI_in (xs := f z) (r := 0) (by decide) (by omega)
      refine u_ixL ed ?_
      obtain ⟨gy, ey⟩ := g3 y hy
      obtain ⟨gd, ed2⟩ := g3 d (List.mem_of_getElem? ed')
      have e : y = d := tX_inj gy gd (ey.trans ed2.symm)
      refine u_ne (py60 gy) (py60 gd) ?_
      rw [(eqv_iff gy gd).mpr e]
      exact ⟨rfl, rfl⟩
    · bv_omega
      refine ⟨by simp, ?_⟩
      rw [flt_no]
      refine u_ne (p := .list []) (q := .list []) rfl rfl ?_
      exact ⟨rfl, rfl⟩
  · bv_omega
    refine ⟨by simp, ?_⟩
    rw [flt_no]
    refine u_ne (p := .list []) (q := .list []) rfl rfl ?_
    refine b_f rfl ?_
    bv_omega
    exact ⟨rfl, rfl⟩
theorem eq_ok {n k : Nat} {s : Sto} {L : List D} {q0 q2 q4 p5 p6 p7 p8 : Sl} (P : Pc k n s) (hn : n < 2 ^ 44) (hL : Gl 2 L) (l0 : 0 < L.length) (l1 : L.length ≤ 200) :
    Ok (eqB [q0, .val (.cell k), q2, .val (.lst L), q4, p5, p6, p7, p8] s) fun o s' => (∃ p7 p8, o = .nx [q0, .val (.cell k), q2, .val (.lst L), q4, p5, p6, p7, p8]) ∧ Pc k (n + 8) s' ∧ Keep k s s' := by
  unfold eqB
  bv_omega
  refine oneK P (by omega) l0 (by omega) fun x s1 P1 K1 hx => ?_
  bv_omega
  refine oneK P1 (by omega) l0 (by omega) fun y s2 P2 K2 hy => ?_
  have gx := hL x hx
  have gy := hL y hy
  bv_omega
  refine ⟨by decide, ?_⟩
  bv_omega
  refine z_eOwn ?_
  bv_omega
  refine Ok.use (rule_ok (gx.isT.up (by decide))) ?_
  refine ⟨_, _, rfl, ?_⟩
  bv_omega
  refine Ok.use (rule_ok (gy.isT.up (by decide))) ?_
  refine ⟨rfl, ?_⟩
  obtain ⟨b, hb, eb⟩ := req (st := s2) gx gy
  refine Ok.use eb ?_
  refine ⟨_, rfl, ?_⟩
  bv_omega
  refine Ok.use (rule_ok (gx.isT.up (by decide))) ?_
  bv_omega
  refine Ok.use (ruletext_ok gx) ?_
  bv_omega
  refine Ok.use (rule_ok (gy.isT.up (by decide))) ?_
  bv_omega
  refine Ok.use (ruletext_ok gy) ?_
  refine u_eq (py_str (tX_ok gx)) (py_str (tX_ok gy)) ?_
  refine u_ne rfl rfl ?_
  have e : PyData.eqv (.str (tX x)) (.str (tX y)) = b := by
    unfold PyData.eqv
    rw [Bool.eq_iff_iff, beq_iff_eq, hb]
    exact ⟨tX_inj gx gy, fun e => e ▸ rfl⟩
  rw [e]
  refine b_f ?_ ?_
  · cases b <;> rfl
  bv_omega
  exact ⟨⟨_, _, rfl⟩, P2, K1.trans K2⟩
theorem turnK {n k : Nat} {s : Sto} (P : Pc k n s) (hn : n < 2 ^ 40) {q0 p2 p3 p4 p5 p6 p7 p8 : Sl} :
    Ok (lwB [q0, .val (.cell k), p2, p3, p4, p5, p6, p7, p8] s) fun o s' => (∃ p2 p3 p4 p5 p6 p7 p8, o = .nx [q0, .val (.cell k), p2, p3, p4, p5, p6, p7, p8]) ∧ Pc k (n + 508) s' ∧ Keep k s s' := by
  have kl := P.lt
  unfold lwB
  refine z_seq ?_
  bv_omega
  refine ⟨by simp, ?_⟩
  bv_omega
  refine u_now rfl ?_
  bv_omega
  refine termsK (P.app (ys := [unC ([], [])])) (by omega) fun L s1 P1 K1 hL l0 l1 => ?_
  have j1 : s1[s.length]? = some (unC ([], [])) := K1 _ _ (by omega) (by rw [List.getElem?_append_right (Nat.le_refl _), Nat.sub_self]; rfl)
  have jl := (List.getElem?_eq_some_iff.mp j1).1
  bv_omega
  refine ⟨by simp, ?_⟩
  have d2 : (s1 ++ [[]])[s.length]? = some (unC (tdK [] fun _ => [])) := by
    rw [List.getElem?_append_left jl]
    exact j1
  have u2 : (s1 ++ [[]])[s1.length]? = some (([] : List Str).map D.str) := by
    rw [List.getElem?_append_right (Nat.le_refl _), Nat.sub_self]
    rfl
  have T2 : Td (s1 ++ [[]]) s.length s1.length [] [] (fun _ => []) 0 := ⟨d2, u2, fun z hz => (by cases hz), fun z hz => (by cases hz), Nat.zero_le _, Nat.zero_le _⟩
  have P2 := P1.app (ys := [[]])
  have K2 : Keep k s (s1 ++ [[]]) := (Keep.app.trans K1).trans Keep.app
  generalize s1 ++ [[]] = s2 at T2 P2 K2
  clear d2 u2
  generalize hu : s1.length = u at T2 jl
  generalize hj : s.length = j at T2 jl kl
  bv_omega
  refine ⟨by simp, _, _, rfl, rfl, ?_⟩
  refine z_seq ?_
  refine z_for ?_
  refine z_seqW ?_
  bv_omega
  refine ⟨_, .inl rfl, ?_⟩
  refine (loop_inv (fun i env s' => ∃ zs us f p5 p6, env = [q0, .val (.cell k), .val (.dcl j), .val (.lst L), .val (.cell u), p5, p6, p7, p8] ∧ Td s' j u zs us f i ∧ ∀ i, i ≠ j → i ≠ u → s'[i]? = s2[i]?) _ 0 _ _ ⟨_, _, _, _, _, rfl, T2, fun _ _ _ => rfl⟩ ?_ (fun _ _ _ => rfl)).mono ?_
  · rintro i x e s' hx ⟨zs, us, f, p5, p6, rfl, T, O⟩
    rw [Nat.zero_add] at T ⊢
    have il : i < L.length := (List.getElem?_eq_some_iff.mp hx).1
    refine ⟨rfl, _, rfl, ?_⟩
    refine (tl_step (by omega) T (by omega) (hL x (List.mem_of_getElem? hx))).mono ?_
    rintro o s'' ⟨zs', us', f', rfl, T', O'⟩
    exact ⟨_, .inl rfl, zs', us', f', _, _, rfl, T', fun i h1 h2 => (O' i h1 h2).trans (O i h1 h2)⟩
  rintro o s3 ⟨e, rfl, zs, us, f, p5, p6, rfl, T, O⟩
  rw [Nat.zero_add] at T
  have T : Td s3 j u zs us f L.length := T
  have P3 : Pc k (n + 500) s3 := by
    obtain ⟨l, e, p⟩ := P2
    exact ⟨l, (O k (by omega) (by omega)).trans e, p⟩
  have K3 : Keep k s s3 := fun i x ni e => (O i (by have := (List.getElem?_eq_some_iff.mp e).1; omega) (by have := (List.getElem?_eq_some_iff.mp e).1; omega)).trans (K2 i x ni e)
  refine z_seq ?_
  refine (ch_ok T (by omega)).mono ?_
  rintro o s' ⟨rfl, rfl⟩
  refine (eq_ok P3 (by omega) hL l0 l1).mono ?_
  rintro o s' ⟨⟨p7, p8, rfl⟩, P4, K4⟩
  exact ⟨⟨_, _, _, _, _, _, _, rfl⟩, P4, K3.trans K4⟩
end K94

/-! ZD94: the law. -/
namespace K94
open PySem L2 LW
local macro_rules | `(tactic| bv_omega) => `(tactic| (repeat (first | with_reducible first | refine z_var (by with_unfolding_all rfl) ?_ | refine z_pk (by with_unfolding_all rfl) ?_ | refine z_pkO (by with_unfolding_all rfl) ?_ | refine z_retO (by with_unfolding_all rfl) ?_ | refine z_dictO (by with_unfolding_all rfl) ?_ | refine z_c ?_ | refine z_op ?_ | refine z_nil ?_ | refine z_cons ?_ | refine z_tup ?_ | refine z_lst ?_ | refine z_L ?_ | refine z_bi ?_ | refine z_call ?_ | refine z_meth ?_ | refine z_prop ?_ | refine z_fld ?_ | refine z_make ?_ | refine z_not ?_ | refine z_neg ?_ | refine z_bits ?_ | refine t_of ?_ | refine t_not ?_ | refine z_slN ?_ | refine z_oN ?_ | refine z_oS ?_ | refine z_snil ?_ | refine z_seq ?_ | refine z_set ?_ | refine z_own ?_ | refine z_ret ?_ | refine z_retC ?_ | refine z_drop ?_ | refine z_frz ?_ | refine z_app ?_ | refine z_appC ?_ | refine z_putC ?_ | refine z_for ?_ | refine z_lc ?_ | refine z_yes ?_ | refine z_kv ?_ | refine z_ko ?_ | refine z_par ?_ | refine z_unp ?_ | refine z_sfld ?_ | refine z_rg1 ?_ | refine z_rg2 ?_ | refine z_rg3 ?_ | refine z_and ?_ | refine z_or ?_ | refine z_eif ?_ | refine t_and ?_ | refine t_or ?_ | refine z_sif ?_ | refine u_add ?_ | refine u_sub ?_ | refine u_lt ?_ | refine u_le ?_ | refine u_gt ?_ | refine u_ge ?_ | refine u_isN ?_ | refine u_notN ?_ | refine z_par3 ?_ | refine z_dcl ?_ | refine z_cel ?_ | refine z_putDC ?_ | refine z_clrC ?_ | refine z_ownD ?_ | refine z_lenSN ?_ | refine z_D ?_ | refine z_dComp ?_ | refine z_lc2 ?_ | refine z_sn ?_ | refine z_makeC ?_ | refine z_methC ?_ | refine z_fldC ?_ | refine z_sfldC ?_ | refine z_xSet ?_ | refine z_methX ?_ | refine z_methCX ?_ | refine z_xIfE ?_ | refine z_xEL ?_ | refine z_xPar2 (by decide) ?_ | refine z_kD2 ?_ | refine z_par2 (by decide) ?_ | refine z_d0 ?_ | refine z_xBare ?_ | refine z_xFrz ?_ | refine z_xFor ?_ | refine z_sortIt ?_ | refine z_lenO ?_ | refine z_xSeq ?_ | refine z_xIf ?_ | refine z_xRaise ?_ | refine z_xL ?_ | refine z_xNil ?_ | refine z_xDrop ?_ | refine z_xRet ?_ | refine z_eCallX ?_ | refine z_sTry ?_ | refine z_DT ?_ | refine z_t0 ?_ | refine z_Td ?_ | refine z_ownT ?_ | refine z_putT ?_ | refine z_frzT ?_ | refine z_par3T ?_ | refine z_toT ?_ | refine z_join ?_ | refine z_sw3 ?_ | (with_reducible refine u_mul ?_ ?_; next => first | exact mulC_r (by decide) (by decide) | exact mulC_l (by decide) (by decide) | exact mulC_r (by omega) (by omega) | exact mulC_l (by omega) (by omega)) | (with_reducible refine u_mod ?_ ?_; next => first | decide | assumption | omega) | (with_reducible refine u_div ?_ ?_; next => first | exact divC_s (by decide) (by decide) | exact divC_s (by omega) (by omega)))))
theorem Pc.keep {k j n : Nat} {st s : Sto} (P : Pc k n st) (hk : k ≠ j) (K : Keep j st s) : Pc k n s := by
  obtain ⟨l, e, p⟩ := P
  exact ⟨l, K k l hk e, p⟩
theorem law_true (ns : List Int) (hl : ns.length ≤ 63) : ∃ st', m_law [.fro (ns.map D.int)] [] = some (.bl true, st') := by
  have H : Ok (m_law [.fro (ns.map D.int)] []) fun d _ => d = .bl true := by
    refine z_fn rfl ?_
    unfold b_law
    refine z_seq ?_
    refine z_for ?_
    refine z_seqW ?_
    bv_omega
    refine pursesK fun ks s P W => ?_
    refine ⟨_, .inl rfl, ?_⟩
    refine (loop_inv (fun i env s => (∃ p2 p3 p4 p5 p6 p7 p8 p1, env = [.val (.fro (ns.map D.int)), p1, p2, p3, p4, p5, p6, p7, p8]) ∧ ∀ i' k, i ≤ i' → ks[i']? = some k → Pc k 0 s) _ 0 _ _ ⟨⟨_, _, _, _, _, _, _, _, rfl⟩, fun i' k _ e => P k (List.mem_of_getElem? e)⟩ ?_ (fun _ _ _ => rfl)).mono ?_
    · rintro i y e s hy ⟨⟨p2, p3, p4, p5, p6, p7, p8, p1, rfl⟩, P1⟩
      rw [List.getElem?_map] at hy
      obtain ⟨k, hk, rfl⟩ := Option.map_eq_some_iff.mp hy
      rw [Nat.zero_add] at P1 ⊢
      refine ⟨rfl, _, rfl, ?_⟩
      refine (turnK (P1 i k (Nat.le_refl _) hk) (by decide)).mono ?_
      rintro o s' ⟨⟨q2, q3, q4, q5, q6, q7, q8, rfl⟩, P2, K2⟩
      refine ⟨_, .inl rfl, ⟨_, _, _, _, _, _, _, _, rfl⟩, fun i' k' hi e => (P1 i' k' (by omega) e).keep ?_ K2⟩
      obtain ⟨h1, e1⟩ := List.getElem?_eq_some_iff.mp hk
      obtain ⟨h2, e2⟩ := List.getElem?_eq_some_iff.mp e
      have := List.pairwise_iff_getElem.mp W i i' h1 h2 (by omega)
      rw [e1, e2] at this
      exact fun z => this z.symm
    · rintro o s' ⟨e, rfl, ⟨p2, p3, p4, p5, p6, p7, p8, p1, rfl⟩, P1⟩
      bv_omega
      rfl
  obtain ⟨d, st', e, rfl⟩ := H
  exact ⟨st', e⟩
end K94

theorem PySem.Challenge.cw_leafwaits_k94_whole_texts_of_all_small_t_holds : PySem.Challenge.rw_leafwaits_k94_whole_texts_of_all_small_t.Holds := by
  exact K94.hmain K94.law_true
